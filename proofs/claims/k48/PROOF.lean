import PyProof.Rows.All
import Wide.All
import OpenK.AllK
import Wide.FinOn
import HandS.ForMost
import HandS.Exc
import HandS.TryOnly
import HandS.ExcOwn
import HandS.WordsExc
import HandS.IsInst
import HandS.ExcIs
import HandS.AnyAll
import HandS.ExcCtx
import HandS.HotCalls
import HandS.Wide
import HandS.Deep
import HandS.TupAny
import HandS.TupLe
import HandS.Iter
import HandS.GenOver
import PyProof.GenQ
import HandS.GenList
import PyProof.ConsumeS
import HandS.Rev
import HandS.RevTup
import PyProof.ListCopy
import HandS.EndTab
import KE.KNest
import HandS.Style
import HandS.SortRule
import KE.KSortTupAny
import HandS.Comp
import HandS.Gcd
import HandS.Zip
import HandS.SortInts
import HandS.Conv
import HandS.SetFor
import PySem.Challenge.RW_docketloom_k48_exact_interest
set_option Elab.async false
set_option linter.all false
set_option maxRecDepth 100000
/-! The data layer: readings told over plain data, no heap in sight. -/
namespace PD
open PySem L2 GxR

def Ex (H H' : Hp) : Prop := ∀ a o, H a = some o → H' a = some o
theorem Ex.refl (H : Hp) : Ex H H := fun _ _ h => h
theorem Ex.trans {H H1 H2 : Hp} (a : Ex H H1) (b : Ex H1 H2) : Ex H H2 := fun x o h => b x o (a x o h)
theorem Ex.new {H : Hp} {p : Addr} {o : HO} (h : H p = none) : Ex H (upd H p o) := fun a u e => by
  rw [upd_ne (ne_of_none e h)]
  exact e
theorem Ex.upd2 {M H : Hp} {p : Addr} {o : HO} (e : Ex M H) (h : H p = none) : Ex (upd M p o) (upd H p o) := fun a u q => by
  unfold upd at q ⊢
  split
  · rename_i hh
    rw [if_pos hh] at q
    exact q
  · rename_i hh
    rw [if_neg hh] at q
    exact e a u q
theorem Ex.none {M H : Hp} (e : Ex M H) {p : Addr} (h : H p = none) : M p = none := by
  cases q : M p with
  | none => rfl
  | some o =>
    rw [e p o q] at h
    cases h
theorem ex_t {K : PySem.W.Frag} {H H' : Hp} {a : Addr} {xs : List V} (e : Ex H H') (h : SqT K H a xs) : SqT K H' a xs := by
  rcases h with (h | ⟨o, h⟩) | h
  · exact .inl (.inl (e a _ h))
  · exact .inl (.inr ⟨o, e a _ h⟩)
  · exact .inr h

theorem ex_l {K : PySem.W.Frag} {H H' : Hp} {a : Addr} {xs : List V} (e : Ex H H') (h : SqL K H a xs) : SqL K H' a xs := by
  rcases h with (h | ⟨o, h⟩) | h
  · exact .inl (.inl (e a _ h))
  · exact .inl (.inr ⟨o, e a _ h⟩)
  · exact .inr h

/-! ### what stands for a datum -/
mutual
inductive Rp (K : PySem.W.Frag) (M : Hp) : V → PyData → Prop
  | non : Rp K M .non .none
  | bl (b : Bool) : Rp K M (.bl b) (.bool b)
  | int (i : Int) : Rp K M (.int i) (.int i)
  | str (x : Str) : Rp K M (.str x) (.str x)
  | lst {a : Addr} {xs : List V} {ds : List PyData} : M a = some (.lst xs) → RpAll K M xs ds → Rp K M (.ref a) (.list ds)
  | tup {a : Addr} {xs : List V} {ds : List PyData} : SqT K M a xs → RpAll K M xs ds → Rp K M (.ref a) (.tuple ds)
inductive RpAll (K : PySem.W.Frag) (M : Hp) : List V → List PyData → Prop
  | nil : RpAll K M [] []
  | cons {v : V} {vs : List V} {d : PyData} {ds : List PyData} : Rp K M v d → RpAll K M vs ds → RpAll K M (v :: vs) (d :: ds)
end
section
variable {K : PySem.W.Frag} {M N : Hp}
mutual
theorem Rp.mono (e : Ex M N) : ∀ (d : PyData) (v : V), Rp K M v d → Rp K N v d
  | .none, v, h => by cases h; exact .non
  | .bool b, v, h => by cases h; exact .bl b
  | .int i, v, h => by cases h; exact .int i
  | .str x, v, h => by cases h; exact .str x
  | .list ds, v, h => by
    cases h with
    | lst h1 h2 => exact .lst (e _ _ h1) (Rp.monoAll e ds _ h2)
  | .tuple ds, v, h => by
    cases h with
    | tup h1 h2 => exact .tup (ex_t e h1) (Rp.monoAll e ds _ h2)
  | .dict _, v, h => by cases h
theorem Rp.monoAll (e : Ex M N) : ∀ (ds : List PyData) (vs : List V), RpAll K M vs ds → RpAll K N vs ds
  | [], vs, h => by cases h; exact .nil
  | d :: ds, vs, h => by
    cases h with
    | cons h1 h2 => exact .cons (Rp.mono e d _ h1) (Rp.monoAll e ds _ h2)
end
theorem Rp.up {v : V} {d : PyData} (h : Rp K M v d) (e : Ex M N) : Rp K N v d := Rp.mono e d v h
theorem RpAll.up {vs : List V} {ds : List PyData} (h : RpAll K M vs ds) (e : Ex M N) : RpAll K N vs ds := Rp.monoAll e ds vs h
mutual
theorem Rp.dp (e : Ex M N) : ∀ (d : PyData) (v : V), Rp K M v d → Dp K N v d
  | .none, v, h => by cases h; exact .non
  | .bool b, v, h => by cases h; exact .bl b
  | .int i, v, h => by cases h; exact .int i
  | .str x, v, h => by cases h; exact .str x
  | .list ds, v, h => by
    cases h with
    | lst h1 h2 => exact .lst (.inl (.inl (e _ _ h1))) (Rp.dpAll e ds _ h2)
  | .tuple ds, v, h => by
    cases h with
    | tup h1 h2 => exact .tup (ex_t e h1) (Rp.dpAll e ds _ h2)
  | .dict _, v, h => by cases h
theorem Rp.dpAll (e : Ex M N) : ∀ (ds : List PyData) (vs : List V), RpAll K M vs ds → DpAll K N vs ds
  | [], vs, h => by cases h; exact .nil
  | d :: ds, vs, h => by
    cases h with
    | cons h1 h2 => exact .cons (Rp.dp e d _ h1) (Rp.dpAll e ds _ h2)
end
theorem RpAll.length : ∀ {vs : List V} {ds : List PyData}, RpAll K M vs ds → vs.length = ds.length
  | [], [], _ => rfl
  | _ :: _, _ :: _, .cons _ h => by rw [List.length_cons, List.length_cons, h.length]
theorem RpAll.get : ∀ {vs : List V} {ds : List PyData} {i : Nat} {d : PyData}, RpAll K M vs ds → ds[i]? = some d → ∃ v, vs[i]? = some v ∧ Rp K M v d
  | [], [], _, _, _, e => by simp at e
  | _ :: _, _ :: _, 0, _, .cons h _, e => by
    simp at e
    subst e
    exact ⟨_, rfl, h⟩
  | _ :: _, _ :: _, i + 1, d, .cons _ h, e => by
    obtain ⟨v, h1, h2⟩ := h.get (i := i) (d := d) (by simpa using e)
    exact ⟨v, by simpa using h1, h2⟩
theorem RpAll.append : ∀ {vs ws : List V} {ds es : List PyData}, RpAll K M vs ds → RpAll K M ws es → RpAll K M (vs ++ ws) (ds ++ es)
  | _, _, _, _, .nil, h => h
  | _, _, _, _, .cons h t, h' => .cons h (t.append h')
theorem RpAll.set {v : V} {d : PyData} (r : Rp K M v d) : ∀ {vs : List V} {ds : List PyData} (i : Nat), RpAll K M vs ds → RpAll K M (vs.set i v) (ds.set i d)
  | _, _, _, .nil => .nil
  | _, _, 0, .cons _ t => .cons r t
  | _, _, i + 1, .cons q t => .cons q (RpAll.set r i t)
theorem RpAll.dropLast : ∀ {vs : List V} {ds : List PyData}, RpAll K M vs ds → RpAll K M vs.dropLast ds.dropLast
  | _, _, .nil => .nil
  | _, _, .cons _ .nil => .nil
  | _, _, .cons h (.cons h' t) => .cons h (RpAll.dropLast (.cons h' t))
theorem RpAll.take : ∀ {vs : List V} {ds : List PyData} (n : Nat), RpAll K M vs ds → RpAll K M (vs.take n) (ds.take n)
  | _, _, 0, _ => .nil
  | _, _, _ + 1, .nil => .nil
  | _, _, n + 1, .cons h t => .cons h (RpAll.take n t)
theorem RpAll.drop : ∀ {vs : List V} {ds : List PyData} (n : Nat), RpAll K M vs ds → RpAll K M (vs.drop n) (ds.drop n)
  | _, _, 0, h => h
  | _, _, _ + 1, .nil => .nil
  | _, _, n + 1, .cons _ t => RpAll.drop n t
theorem RpAll.reverse {vs : List V} {ds : List PyData} (h : RpAll K M vs ds) : RpAll K M vs.reverse ds.reverse := by
  induction vs generalizing ds with
  | nil => cases h; exact .nil
  | cons v vs ih =>
    cases h with
    | cons h t =>
      rw [List.reverse_cons, List.reverse_cons]
      exact (ih t).append (.cons h .nil)
theorem RpAll.ints {ns : List Int} : RpAll K M (ns.map V.int) (ns.map PyData.int) := by
  induction ns with
  | nil => exact .nil
  | cons n ns ih => exact .cons (.int n) ih
theorem RpAll.of_ints : ∀ {vs : List V} {ns : List Int}, RpAll K M vs (ns.map PyData.int) → vs = ns.map V.int
  | [], [], _ => rfl
  | _ :: _, n :: ns, .cons h t => by
    cases h
    rw [List.map_cons, t.of_ints]
end

/-! ### the base, what may change, the state -/
/-- what a source of draws must hold -/
structure Src where
  ok : Hp → HO → Prop
  mono : ∀ M N o, Ex M N → ok M o → ok N o
  /-- where the defs' tables of code objects stand -/
  tb : Addr → Prop
  nt : ∀ M ps, ¬ ok M (.tbl ps)
theorem tab_not {H : Hp} {P : Addr} {o : HO} (h : TabG H P) (e : H P = some o) (n : ∀ ps, o ≠ .tbl ps) : False := by
  obtain ⟨ps, h1, _⟩ := h
  rw [e] at h1
  exact n ps (Option.some.inj h1)
theorem tab_nots {S : Src} {M H : Hp} {P : Addr} {o : HO} (h : TabG H P) (e : H P = some o) (n : S.ok M o) : False := by
  obtain ⟨ps, h1, _⟩ := h
  rw [e] at h1
  cases h1
  exact S.nt M ps n
/-- where a stretch of work begins: the sources, the lists that are ours, what is known for good, the heap -/
structure Bs where
  z : Addr → Prop
  y : Addr → Prop
  M : Hp
  H : Hp
  L : Hp
structure Bs.Ok (S : Src) (B : Bs) : Prop where
  sub : Ex B.M B.H
  zM : ∀ b, B.z b → B.M b = none
  yM : ∀ b, B.y b → B.M b = none
  yH : ∀ b, B.y b → ∃ vs, B.H b = some (.lst vs)
  zs : ∀ b, B.z b → ∃ o, B.H b = some o ∧ S.ok B.M o
  zy : ∀ b, B.z b → ¬ B.y b
  tM : ∀ b, S.tb b → B.M b = none
  tH : ∀ b, S.tb b → TabG B.H b
structure Ext (S : Src) (B : Bs) (N H' : Hp) : Prop where
  ex : Ex B.M N
  sub : Ex N H'
  fr : ∀ b, B.M b = none → B.H b ≠ none → N b = none
  keep : ∀ b o, B.H b = some o → ¬ B.z b → ¬ B.y b → ¬ S.tb b → H' b = some o
  dom : ∀ b, B.H b ≠ none → H' b ≠ none
  src : ∀ b, B.z b → ∃ o', H' b = some o' ∧ S.ok N o'
  fl : Ex B.L N
  tab : ∀ b, S.tb b → TabG H' b
theorem Ext.refl {S : Src} {B : Bs} (h : B.Ok S) (hL : Ex B.L B.M) : Ext S B B.M B.H := ⟨Ex.refl _, h.sub, fun _ e _ => e, fun _ _ e _ _ _ => e, fun _ e => e, h.zs, hL, h.tH⟩
theorem Ext.trans {S : Src} {B : Bs} {z' y' : Addr → Prop} {N1 H1 N2 H2 L' : Hp} (hB : B.Ok S) (a : Ext S B N1 H1) (hz : ∀ b, z' b → B.z b ∨ B.H b = none) (hy : ∀ b, y' b → B.y b ∨ B.H b = none)
    (c : Ext S ⟨z', y', N1, H1, L'⟩ N2 H2) : Ext S B N2 H2 where
  fl := a.fl.trans c.ex
  tab := c.tab
  ex := a.ex.trans c.ex
  sub := c.sub
  fr := fun b e n => c.fr b (a.fr b e n) (a.dom b n)
  keep := fun b o e nz ny nt => c.keep b o (a.keep b o e nz ny nt) (fun h => (hz b h).elim nz fun q => by rw [e] at q; cases q) (fun h => (hy b h).elim ny fun q => by rw [e] at q; cases q) nt
  dom := fun b n => c.dom b (a.dom b n)
  src := fun b h => by
    obtain ⟨o, e, s⟩ := a.src b h
    obtain ⟨o0, e0, _⟩ := hB.zs b h
    by_cases h' : z' b
    · exact c.src b h'
    · exact ⟨o, c.keep b o e h' (fun h2 => (hy b h2).elim (hB.zy b h) fun q => by rw [e0] at q; cases q) (fun ht => tab_nots (a.tab b ht) e s), S.mono _ _ _ c.ex s⟩

/-- a slot of a frame, told over data -/
inductive Sl where
  | un
  | v (d : PyData)
  | own (ds : List PyData)
  | brw (ds : List PyData)
  | src
  | exc (a : Addr) (c : Value)
  | fz (ds : List PyData)
def Sl.mut : Sl → Bool
  | .own _ => true
  | .brw _ => true
  | .src => true
  | _ => false
def SlOk (K : PySem.W.Frag) (S : Src) (B : Bs) (N H : Hp) : Sl → Option V → Prop
  | .un, _ => True
  | .v d, x => ∃ v, x = some v ∧ Rp K N v d
  | .own ds, x => ∃ a vs, x = some (.ref a) ∧ H a = some (.lst vs) ∧ RpAll K N vs ds ∧ N a = none ∧ B.H a = none
  | .brw ds, x => ∃ a vs, x = some (.ref a) ∧ H a = some (.lst vs) ∧ RpAll K N vs ds ∧ N a = none ∧ B.y a
  | .src, x => ∃ a o, x = some (.ref a) ∧ H a = some o ∧ S.ok N o ∧ N a = none ∧ (B.z a ∨ B.H a = none)
  | .exc a _, x => x = some (.ref a)
  | .fz ds, x => ∃ a vs, x = some (.ref a) ∧ SqL K N a vs ∧ RpAll K N vs ds
structure Rel (K : PySem.W.Frag) (S : Src) (B : Bs) (N H : Hp) (σ : St) (ρ : List Sl) : Prop where
  b : B.Ok S
  ext : Ext S B N H
  len : σ.length = ρ.length
  ok : ∀ (i : Nat) (s : Sl), ρ[i]? = some s → ∃ x, σ[i]? = some x ∧ SlOk K S B N H s x
  sep : ∀ (i j : Nat) (s t : Sl) (a : Addr), i ≠ j → ρ[i]? = some s → ρ[j]? = some t → s.mut = true → t.mut = true → σ[i]? = some (some (.ref a)) → σ[j]? = some (some (.ref a)) → False
section
variable {K : PySem.W.Frag} {S : Src} {B : Bs} {N H N' H' : Hp} {σ : St} {ρ : List Sl}
theorem Rel.sub (R : Rel K S B N H σ ρ) : Ex N H := R.ext.sub
/-- all that stood stands -/
theorem Rel.grow (R : Rel K S B N H σ ρ) (e1 : Ex N N') (e2 : Ex N' H') (fr : ∀ b, N b = none → H b ≠ none → N' b = none) (k : Ex H H') : Rel K S B N' H' σ ρ where
  b := R.b
  ext := ⟨R.ext.ex.trans e1, e2, fun b h n => fr b (R.ext.fr b h n) (R.ext.dom b n), fun b o h nz ny nt => k b o (R.ext.keep b o h nz ny nt), fun b n => by
    have := R.ext.dom b n
    cases q : H b with
    | none => exact absurd q this
    | some o =>
      rw [k b o q]
      exact nofun, fun b h => by
    obtain ⟨o, q, s⟩ := R.ext.src b h
    exact ⟨o, k b o q, S.mono _ _ _ e1 s⟩, R.ext.fl.trans e1, fun b h => let ⟨ps, q, t⟩ := R.ext.tab b h; ⟨ps, k b _ q, t⟩⟩
  len := R.len
  sep := R.sep
  ok := fun i s h => by
    obtain ⟨x, e, q⟩ := R.ok i s h
    refine ⟨x, e, ?_⟩
    cases s with
    | un => trivial
    | v d => obtain ⟨v, e, r⟩ := q; exact ⟨v, e, r.up e1⟩
    | own ds =>
      obtain ⟨a, vs, e, h1, h2, h3, h4⟩ := q
      exact ⟨a, vs, e, k _ _ h1, h2.up e1, fr a h3 (by rw [h1]; exact nofun), h4⟩
    | brw ds =>
      obtain ⟨a, vs, e, h1, h2, h3, h4⟩ := q
      exact ⟨a, vs, e, k _ _ h1, h2.up e1, fr a h3 (by rw [h1]; exact nofun), h4⟩
    | src =>
      obtain ⟨a, o, e, h1, h2, h3, h4⟩ := q
      exact ⟨a, o, e, k _ _ h1, S.mono _ _ _ e1 h2, fr a h3 (by rw [h1]; exact nofun), h4⟩
    | exc a c => exact q
    | fz ds => obtain ⟨a, vs, e, h1, h2⟩ := q; exact ⟨a, vs, e, ex_l e1 h1, h2.up e1⟩
theorem Rel.newM {p : Addr} {o : HO} (R : Rel K S B N H σ ρ) (h : H p = none) : Rel K S B (upd N p o) (upd H p o) σ ρ :=
  R.grow (Ex.new (R.sub.none h)) (R.sub.upd2 h) (fun b e n => by
    unfold upd
    rw [if_neg (fun z => by rw [z] at n; exact n h)]
    exact e) (Ex.new h)
theorem Rel.newH {p : Addr} {o : HO} (R : Rel K S B N H σ ρ) (h : H p = none) : Rel K S B N (upd H p o) σ ρ :=
  R.grow (Ex.refl _) (R.sub.trans (Ex.new h)) (fun _ e _ => e) (Ex.new h)
theorem Rel.fresh (R : Rel K S B N H σ ρ) {p : Addr} (h : H p = none) : B.H p = none := by
  cases q : B.H p with
  | none => rfl
  | some o => exact absurd h (R.ext.dom p (by rw [q]; exact nofun))
/-- no slot of ours that may change holds a new address -/
def Away (σ : St) (ρ : List Sl) (a : Addr) : Prop := ∀ (j : Nat) (s : Sl), ρ[j]? = some s → s.mut = true → σ[j]? ≠ some (some (.ref a))
theorem Rel.away (R : Rel K S B N H σ ρ) {p : Addr} (h : H p = none) : Away σ ρ p := fun j s e m q => by
  obtain ⟨x, ex, ok⟩ := R.ok j s e
  cases s with
  | own ds =>
    obtain ⟨a, vs, e2, h1, _⟩ := ok
    rw [q] at ex
    cases ex
    cases e2
    rw [h] at h1
    cases h1
  | brw ds =>
    obtain ⟨a, vs, e2, h1, _⟩ := ok
    rw [q] at ex
    cases ex
    cases e2
    rw [h] at h1
    cases h1
  | src =>
    obtain ⟨a, o, e2, h1, _⟩ := ok
    rw [q] at ex
    cases ex
    cases e2
    rw [h] at h1
    cases h1
  | _ => cases m
theorem get_set_cases {α : Type} {l : List α} {i j : Nat} {x y : α} (h : (l.set i x)[j]? = some y) : (j = i ∧ y = x ∧ i < l.length) ∨ (j ≠ i ∧ l[j]? = some y) := by
  by_cases e : j = i
  · subst e
    by_cases hl : j < l.length
    · rw [List.getElem?_set_self hl] at h
      exact .inl ⟨rfl, (Option.some.inj h).symm, hl⟩
    · rw [List.getElem?_eq_none (by simpa using hl)] at h
      cases h
  · rw [List.getElem?_set_ne (Ne.symm e)] at h
    exact .inr ⟨e, h⟩
/-- a slot is stored -/
theorem Rel.set {i : Nat} {x : Option V} {s : Sl} (R : Rel K S B N H σ ρ) (ok : SlOk K S B N H s x) (aw : s.mut = true → ∀ a, x = some (.ref a) → ∀ (j : Nat) (t : Sl), j ≠ i → ρ[j]? = some t → t.mut = true → σ[j]? ≠ some (some (.ref a))) :
    Rel K S B N H (σ.set i x) (ρ.set i s) where
  b := R.b
  ext := R.ext
  len := by rw [List.length_set, List.length_set]; exact R.len
  ok := fun j t h => by
    rcases get_set_cases h with ⟨rfl, rfl, hl⟩ | ⟨ne, h⟩
    · exact ⟨x, List.getElem?_set_self (by rw [R.len]; exact hl), ok⟩
    · obtain ⟨y, e, q⟩ := R.ok j t h
      exact ⟨y, by rw [List.getElem?_set_ne (Ne.symm ne)]; exact e, q⟩
  sep := fun j k t u a ne h1 h2 m1 m2 e1 e2 => by
    rcases get_set_cases h1 with ⟨rfl, rfl, hl⟩ | ⟨n1, h1⟩
    · rcases get_set_cases h2 with ⟨rfl, rfl, _⟩ | ⟨n2, h2⟩
      · exact ne rfl
      · rw [List.getElem?_set_self (by rw [R.len]; exact hl)] at e1
        rw [List.getElem?_set_ne (Ne.symm n2)] at e2
        exact aw m1 a (Option.some.inj e1) k u n2 h2 m2 e2
    · rcases get_set_cases h2 with ⟨rfl, rfl, hl⟩ | ⟨n2, h2⟩
      · rw [List.getElem?_set_self (by rw [R.len]; exact hl)] at e2
        rw [List.getElem?_set_ne ne.symm] at e1
        rw [List.getElem?_set_ne ne.symm] at h1
        exact aw m2 a (Option.some.inj e2) j t ne h1 m1 e1
      · rw [List.getElem?_set_ne (Ne.symm n1)] at e1
        rw [List.getElem?_set_ne (Ne.symm n2)] at e2
        exact R.sep j k t u a ne h1 h2 m1 m2 e1 e2
theorem Rel.setV {i : Nat} {v : V} {d : PyData} (R : Rel K S B N H σ ρ) (r : Rp K N v d) : Rel K S B N H (σ.set i (some v)) (ρ.set i (.v d)) :=
  R.set ⟨v, rfl, r⟩ fun m => by cases m
theorem Rel.setU {i : Nat} {x : Option V} (R : Rel K S B N H σ ρ) : Rel K S B N H (σ.set i x) (ρ.set i .un) := R.set trivial fun m => by cases m
/-- a list of ours is from now on known for good -/
theorem Rel.freeze {i : Nat} {ds : List PyData} (R : Rel K S B N H σ ρ) (h : ρ[i]? = some (.own ds)) : ∃ a vs, σ[i]? = some (some (.ref a)) ∧ H a = some (.lst vs) ∧ N a = none ∧ Ex N (upd N a (.lst vs)) ∧ Rp K (upd N a (.lst vs)) (.ref a) (.list ds) ∧
    Rel K S B (upd N a (.lst vs)) H σ (ρ.set i (.v (.list ds))) := by
  obtain ⟨x, ex, a, vs, rfl, h1, h2, h3, h4⟩ := R.ok i _ h
  have e1 : Ex N (upd N a (.lst vs)) := Ex.new h3
  have e2 : Ex (upd N a (.lst vs)) H := fun b o q => by
    unfold upd at q
    split at q
    · rename_i hb
      subst hb
      cases q
      exact h1
    · exact R.sub b o q
  have rp : Rp K (upd N a (.lst vs)) (.ref a) (.list ds) := .lst upd_same (h2.up e1)
  refine ⟨a, vs, ex, h1, h3, e1, rp, ?_⟩
  have hBa : B.H a = none := h4
  refine ⟨R.b, ⟨R.ext.ex.trans e1, e2, fun b q n => ?_, R.ext.keep, R.ext.dom, fun b q => ?_, R.ext.fl.trans e1, R.ext.tab⟩, by rw [List.length_set]; exact R.len, fun j t ht => ?_, fun j k t u c ne g1 g2 m1 m2 e1 e2 => ?_⟩
  · unfold upd
    rw [if_neg (fun z => by rw [z] at n; exact n hBa)]
    exact R.ext.fr b q n
  · obtain ⟨o, g1, g2⟩ := R.ext.src b q
    exact ⟨o, g1, S.mono _ _ _ e1 g2⟩
  · rcases get_set_cases ht with ⟨rfl, rfl, hl⟩ | ⟨ne, ht⟩
    · exact ⟨_, ex, _, rfl, rp⟩
    · obtain ⟨y, ey, q⟩ := R.ok j t ht
      refine ⟨y, ey, ?_⟩
      have na : t.mut = true → ∀ c, y = some (.ref c) → c ≠ a := fun m c hc z => by
        subst hc
        subst z
        exact R.sep j i t _ _ ne ht h m rfl ey ex
      cases t with
      | un => trivial
      | v d => obtain ⟨v, e, r⟩ := q; exact ⟨v, e, r.up e1⟩
      | own es =>
        obtain ⟨c, ws, hy, g1, g2, g3, g4⟩ := q
        exact ⟨c, ws, hy, g1, g2.up e1, by rw [upd_ne (na rfl c hy)]; exact g3, g4⟩
      | brw es =>
        obtain ⟨c, ws, hy, g1, g2, g3, g4⟩ := q
        exact ⟨c, ws, hy, g1, g2.up e1, by rw [upd_ne (na rfl c hy)]; exact g3, g4⟩
      | src =>
        obtain ⟨c, o, hy, g1, g2, g3, g4⟩ := q
        exact ⟨c, o, hy, g1, S.mono _ _ _ e1 g2, by rw [upd_ne (na rfl c hy)]; exact g3, g4⟩
      | exc c v => exact q
      | fz ds => obtain ⟨a, vs, e, h1, h2⟩ := q; exact ⟨a, vs, e, ex_l e1 h1, h2.up e1⟩
  · rcases get_set_cases g1 with ⟨rfl, rfl, hl⟩ | ⟨n1, g1⟩
    · cases m1
    · rcases get_set_cases g2 with ⟨rfl, rfl, hl⟩ | ⟨n2, g2⟩
      · cases m2
      · exact R.sep j k t u c ne g1 g2 m1 m2 e1 e2
/-- the floor is raised to what is known now -/
def Bs.at (B : Bs) (N : Hp) : Bs := { B with L := N }
theorem SlOk.raise {s : Sl} {x : Option V} {L : Hp} (h : SlOk K S B N H s x) : SlOk K S (B.at L) N H s x := by
  cases s <;> exact h
theorem SlOk.lower {s : Sl} {x : Option V} {L : Hp} (h : SlOk K S (B.at L) N H s x) : SlOk K S B N H s x := by
  cases s <;> exact h
theorem Ext.lower {L : Hp} (e : Ex B.L L) (x : Ext S (B.at L) N H) : Ext S B N H := ⟨x.ex, x.sub, x.fr, x.keep, x.dom, x.src, e.trans x.fl, x.tab⟩
theorem Bs.Ok.raise {L : Hp} (h : B.Ok S) : (B.at L).Ok S := ⟨h.sub, h.zM, h.yM, h.yH, h.zs, h.zy, h.tM, h.tH⟩
theorem Bs.Ok.lower {L : Hp} (h : (B.at L).Ok S) : B.Ok S := ⟨h.sub, h.zM, h.yM, h.yH, h.zs, h.zy, h.tM, h.tH⟩
theorem Rel.raise {L : Hp} (R : Rel K S B N H σ ρ) (e : Ex L N) : Rel K S (B.at L) N H σ ρ where
  b := R.b.raise
  ext := ⟨R.ext.ex, R.ext.sub, R.ext.fr, R.ext.keep, R.ext.dom, R.ext.src, e, R.ext.tab⟩
  len := R.len
  sep := R.sep
  ok := fun i s h => let ⟨x, e, q⟩ := R.ok i s h; ⟨x, e, q.raise⟩
theorem Rel.lower {L : Hp} (e : Ex B.L L) (R : Rel K S (B.at L) N H σ ρ) : Rel K S B N H σ ρ where
  b := R.b.lower
  ext := R.ext.lower e
  len := R.len
  sep := R.sep
  ok := fun i s h => let ⟨x, e, q⟩ := R.ok i s h; ⟨x, e, q.lower⟩
theorem Rel.tN (R : Rel K S B N H σ ρ) {P : Addr} (h : S.tb P) : N P = none := R.ext.fr P (R.b.tM P h) (by
  obtain ⟨ps, q, _⟩ := R.b.tH P h
  rw [q]
  exact nofun)
/-- a table has grown -/
theorem Rel.tabbed {P : Addr} (R : Rel K S B N H σ ρ) (hP : S.tb P) (t : Tabbed P H H') : Rel K S B N H' σ ρ where
  b := R.b
  len := R.len
  sep := R.sep
  ext := ⟨R.ext.ex, fun b o q => by rw [t.2 b (fun z => by rw [z, R.tN hP] at q; cases q)]; exact R.sub b o q, R.ext.fr, fun b o e nz ny nt => by rw [t.2 b (fun z => nt (z ▸ hP))]; exact R.ext.keep b o e nz ny nt, fun b n => by
    by_cases hb : b = P
    · obtain ⟨ps, q, _⟩ := t.1
      rw [hb, q]
      exact nofun
    · rw [t.2 b hb]
      exact R.ext.dom b n, fun b q => by
    obtain ⟨o, g1, g2⟩ := R.ext.src b q
    exact ⟨o, by rw [t.2 b (fun z => tab_nots (R.ext.tab b (z ▸ hP)) g1 g2)]; exact g1, g2⟩, R.ext.fl, fun b q => by
    by_cases hb : b = P
    · rw [hb]; exact t.1
    · obtain ⟨ps, g1, g2⟩ := R.ext.tab b q
      exact ⟨ps, by rw [t.2 b hb]; exact g1, g2⟩⟩
  ok := fun i s h => by
    obtain ⟨x, e, q⟩ := R.ok i s h
    refine ⟨x, e, ?_⟩
    have tP := R.ext.tab P hP
    cases s with
    | un => trivial
    | v d => exact q
    | own ds =>
      obtain ⟨a, vs, e, h1, h2⟩ := q
      exact ⟨a, vs, e, by rw [t.2 a (fun z => tab_not tP (z ▸ h1) (fun ps z => by cases z))]; exact h1, h2⟩
    | brw ds =>
      obtain ⟨a, vs, e, h1, h2⟩ := q
      exact ⟨a, vs, e, by rw [t.2 a (fun z => tab_not tP (z ▸ h1) (fun ps z => by cases z))]; exact h1, h2⟩
    | src =>
      obtain ⟨a, o, e, h1, h2, h3⟩ := q
      exact ⟨a, o, e, by rw [t.2 a (fun z => tab_nots tP (z ▸ h1) h2)]; exact h1, h2, h3⟩
    | exc a c => exact q
    | fz ds => exact q
end
end PD

set_option Elab.async false
set_option linter.all false
set_option maxRecDepth 100000
/-! Expressions told over data. -/
namespace PD
open PySem L2 GxR

abbrev PWh := Value → List Sl → Prop
/-- what comes back: a datum, a new list of ours, a source of draws -/
inductive Rt where
  | v (d : PyData)
  | own (ds : List PyData)
  | src
abbrev PKe := PyData → List Sl → Prop
abbrev PTE := PWh → List Sl → PKe → Prop
abbrev PTR := PWh → List Sl → (Rt → List Sl → Prop) → Prop
abbrev PTT := PWh → List Sl → (Bool → List Sl → Prop) → Prop
abbrev PTA := PWh → List Sl → (List PyData → List Sl → Prop) → Prop
def ROk (K : PySem.W.Frag) (S : Src) (B : Bs) (N H : Hp) (σ : St) (ρ : List Sl) (v : V) : Rt → Prop
  | .v d => Rp K N v d
  | .own ds => ∃ a vs, v = .ref a ∧ H a = some (.lst vs) ∧ RpAll K N vs ds ∧ N a = none ∧ B.H a = none ∧ Away σ ρ a
  | .src => ∃ a o, v = .ref a ∧ H a = some o ∧ S.ok N o ∧ N a = none ∧ B.H a = none ∧ Away σ ρ a
def WOk (K : PySem.W.Frag) (S : Src) (B : Bs) (σ : St) (W : WX) (wp : PWh) : Prop := ∀ c N H ρ, Rel K S B N H σ ρ → wp c ρ → W c none σ H
def SimE (K : PySem.W.Frag) (S : Src) (te : WX → TE) (p : PTE) : Prop := ∀ (W : WX) (wp : PWh) (B : Bs) (N H : Hp) (σ : St) (ρ : List Sl) (Q : VK) (Q' : PKe), Rel K S B N H σ ρ → WOk K S B σ W wp → p wp ρ Q' →
  (∀ N' H' v d ρ', Rel K S B N' H' σ ρ' → Ex N N' → Rp K N' v d → Q' d ρ' → Q v H') → te W σ H Q
def SimR (K : PySem.W.Frag) (S : Src) (te : WX → TE) (p : PTR) : Prop := ∀ (W : WX) (wp : PWh) (B : Bs) (N H : Hp) (σ : St) (ρ : List Sl) (Q : VK) (Q' : Rt → List Sl → Prop), Rel K S B N H σ ρ → WOk K S B σ W wp → p wp ρ Q' →
  (∀ N' H' v r ρ', Rel K S B N' H' σ ρ' → Ex N N' → ROk K S B N' H' σ ρ' v r → Q' r ρ' → Q v H') → te W σ H Q
def SimT (K : PySem.W.Frag) (S : Src) (te : WX → TT) (p : PTT) : Prop := ∀ (W : WX) (wp : PWh) (B : Bs) (N H : Hp) (σ : St) (ρ : List Sl) (Q : Bool → Hp → Prop) (Q' : Bool → List Sl → Prop), Rel K S B N H σ ρ → WOk K S B σ W wp → p wp ρ Q' →
  (∀ N' H' b ρ', Rel K S B N' H' σ ρ' → Ex N N' → Q' b ρ' → Q b H') → te W σ H Q
def SimA (K : PySem.W.Frag) (S : Src) (te : WX → TA) (p : PTA) : Prop := ∀ (W : WX) (wp : PWh) (B : Bs) (N H : Hp) (σ : St) (ρ : List Sl) (Q : List V → Hp → Prop) (Q' : List PyData → List Sl → Prop), Rel K S B N H σ ρ → WOk K S B σ W wp → p wp ρ Q' →
  (∀ N' H' vs ds ρ', Rel K S B N' H' σ ρ' → Ex N N' → RpAll K N' vs ds → Q' ds ρ' → Q vs H') → te W σ H Q
def JE (S : Src) (X : Cx) (e : Expr) (p : PTE) : Prop := ∃ te : WX → TE, (∀ W, L2N.Takes X W → PE X e (te W)) ∧ SimE X.K S te p
def JR (S : Src) (X : Cx) (e : Expr) (p : PTR) : Prop := ∃ te : WX → TE, (∀ W, L2N.Takes X W → PE X e (te W)) ∧ SimR X.K S te p
def JT (S : Src) (X : Cx) (e : Expr) (p : PTT) : Prop := ∃ te : WX → TT, (∀ W, L2N.Takes X W → PT X e (te W)) ∧ SimT X.K S te p
def JW (S : Src) (X : Cx) (e : Expr) (p : PTT) : Prop := ∃ te : WX → TT, (∀ W, L2N.Takes X W → PW X e (te W)) ∧ SimT X.K S te p
def JA (S : Src) (X : Cx) (es : List Expr) (p : PTA) : Prop := ∃ te : WX → TA, (∀ W, L2N.Takes X W → PA X es (te W)) ∧ SimA X.K S te p

section
variable {S : Src} {X : Cx} {e a b c : Expr} {es : List Expr} {pos : Pos} {pa pb pc : PTE}

/-! ### from one to the other -/
def pRE (p : PTR) : PTE := fun wp ρ Q => p wp ρ fun r ρ1 => match r with
  | .v d => Q d ρ1
  | .own ds => Q (.list ds) ρ1
  | .src => False
theorem Rel.own_known {K : PySem.W.Frag} {B : Bs} {N H : Hp} {σ : St} {ρ : List Sl} {a : Addr} {vs : List V} (R : Rel K S B N H σ ρ) (h1 : H a = some (.lst vs)) (h3 : N a = none) (h4 : B.H a = none) (aw : Away σ ρ a) :
    Rel K S B (upd N a (.lst vs)) H σ ρ := by
  have e1 : Ex N (upd N a (.lst vs)) := Ex.new h3
  have e2 : Ex (upd N a (.lst vs)) H := fun b o q => by
    unfold upd at q
    split at q
    · rename_i hb
      subst hb
      cases q
      exact h1
    · exact R.sub b o q
  refine ⟨R.b, ⟨R.ext.ex.trans e1, e2, fun b q n => ?_, R.ext.keep, R.ext.dom, fun b q => ?_, R.ext.fl.trans e1, R.ext.tab⟩, R.len, fun j t ht => ?_, R.sep⟩
  · unfold upd
    rw [if_neg (fun z => by rw [z] at n; exact n h4)]
    exact R.ext.fr b q n
  · obtain ⟨o, g1, g2⟩ := R.ext.src b q
    exact ⟨o, g1, S.mono _ _ _ e1 g2⟩
  · obtain ⟨y, ey, q⟩ := R.ok j t ht
    refine ⟨y, ey, ?_⟩
    have na : t.mut = true → ∀ c, y = some (.ref c) → c ≠ a := fun m c hc z => by
      subst hc
      subst z
      exact aw j t ht m ey
    cases t with
    | un => trivial
    | v d => obtain ⟨v, e, r⟩ := q; exact ⟨v, e, r.up e1⟩
    | own es =>
      obtain ⟨c, ws, hy, g1, g2, g3, g4⟩ := q
      exact ⟨c, ws, hy, g1, g2.up e1, by rw [upd_ne (na rfl c hy)]; exact g3, g4⟩
    | brw es =>
      obtain ⟨c, ws, hy, g1, g2, g3, g4⟩ := q
      exact ⟨c, ws, hy, g1, g2.up e1, by rw [upd_ne (na rfl c hy)]; exact g3, g4⟩
    | src =>
      obtain ⟨c, o, hy, g1, g2, g3, g4⟩ := q
      exact ⟨c, o, hy, g1, S.mono _ _ _ e1 g2, by rw [upd_ne (na rfl c hy)]; exact g3, g4⟩
    | exc c v => exact q
    | fz ds => obtain ⟨a, vs, e, h1, h2⟩ := q; exact ⟨a, vs, e, ex_l e1 h1, h2.up e1⟩
theorem je_of {p : PTR} (h : JR S X e p) : JE S X e (pRE p) := by
  obtain ⟨te, h1, h2⟩ := h
  refine ⟨te, h1, fun W wp B N H σ ρ Q Q' R hw q k => h2 W wp B N H σ ρ Q _ R hw q fun N' H' v r ρ' R' e1 ok q' => ?_⟩
  cases r with
  | v d => exact k N' H' v d ρ' R' e1 ok q'
  | own ds =>
    obtain ⟨a, vs, rfl, g1, g2, g3, g4, g5⟩ := ok
    have e2 : Ex N' (upd N' a (.lst vs)) := Ex.new g3
    exact k _ H' _ _ ρ' (R'.own_known g1 g3 g4 g5) (e1.trans e2) (.lst upd_same (g2.up e2)) q'
  | src => exact q'.elim
def pER (p : PTE) : PTR := fun wp ρ Q => p wp ρ fun d ρ1 => Q (.v d) ρ1
theorem jr_of (h : JE S X e pa) : JR S X e (pER pa) := by
  obtain ⟨te, h1, h2⟩ := h
  exact ⟨te, h1, fun W wp B N H σ ρ Q Q' R hw q k => h2 W wp B N H σ ρ Q _ R hw q fun N' H' v d ρ' R' e1 r q' => k N' H' v (.v d) ρ' R' e1 r q'⟩

/-! ### names, constants -/
def pC (d : PyData) : PTE := fun _ ρ Q => Q d ρ
theorem je_c {v : V} {d : PyData} (h : PE X e (tC v)) (r : ∀ M, Rp X.K M v d) : JE S X e (pC d) :=
  ⟨fun _ => tC v, fun _ _ => h, fun W wp B N H σ ρ Q Q' R hw q k => k N H v d ρ R (Ex.refl _) (r N) q⟩
theorem je_int {i : Int} {j : Nat} : JE S X (.Constant (.int i) j pos) (pC (.int i)) := je_c pe_int fun _ => .int i
theorem je_bool {i : Bool} {j : Nat} : JE S X (.Constant (.bool i) j pos) (pC (.bool i)) := je_c pe_bl fun _ => .bl i
theorem je_none {j : Nat} : JE S X (.Constant .none j pos) (pC .none) := je_c pe_non fun _ => .non
theorem je_str {i : Str} {j : Nat} : JE S X (.Constant (.str i) j pos) (pC (.str i)) := je_c pe_str fun _ => .str i
theorem je_glob {x : Str} {v : V} {u : Value} {d : PyData} (hg : Gl X x) (hm : X.mg x = some u) (r : RelV v u) (hd : ∀ M, Rp X.K M v d) (hdb : (x == ("__debug__" : Str)) = false := by decide) : JE S X (.Name x pos) (pC d) := je_c (pe_glob hg hm r hdb) hd
/-- a name: its datum; a list of ours is known for good from here on -/
def pName (i : Nat) : PTE := fun _ ρ Q => match ρ[i]? with
  | some (.v d) => Q d ρ
  | some (.own ds) => Q (.list ds) (ρ.set i (.v (.list ds)))
  | _ => False
theorem je_name (i : Nat) {x : Str} (hN : X.N[i]? = some x := by rfl) (hv : Vis X.env.scope x := by first | exact Or.inl rfl | exact Or.inr (Or.inl rfl) | exact Or.inr (Or.inr rfl)) (hd : (x == ("__debug__" : Str)) = false := by decide)
    (hcd : (x == ("__classdict__" : Str)) = false := by decide) : JE S X (.Name x pos) (pName i) := by
  refine ⟨fun _ => tVar i, fun _ _ => pv i hN hv hd hcd, fun W wp B N H σ ρ Q Q' R hw q k => ?_⟩
  unfold pName at q
  split at q
  · rename_i d h
    obtain ⟨x, ex, v, rfl, r⟩ := R.ok i _ h
    exact ⟨v, ex, k N H v d ρ R (Ex.refl _) r q⟩
  · rename_i ds h
    obtain ⟨a, vs, ex, h1, h3, e1, rp, R2⟩ := R.freeze h
    exact ⟨.ref a, ex, k _ H _ _ _ R2 e1 rp q⟩
  · exact q.elim

/-! ### operators -/
abbrev G2 := PyData → PyData → (PyData → Prop) → Prop
def R2S (K : PySem.W.Frag) (S : Src) (r : R2) (g : G2) : Prop := ∀ (B : Bs) (N H : Hp) (σ : St) (ρ : List Sl) (x y : V) (dx dy : PyData) (Q : VK) (Q' : PyData → Prop), Rel K S B N H σ ρ → Rp K N x dx → Rp K N y dy → g dx dy Q' →
  (∀ N' H' v d, Rel K S B N' H' σ ρ → Ex N N' → Rp K N' v d → Q' d → Q v H') → r x y H Q
def pBin (g : G2) (pa pb : PTE) : PTE := fun wp ρ Q => pa wp ρ fun dx ρ1 => pb wp ρ1 fun dy ρ2 => g dx dy fun d => Q d ρ2
theorem sim_op {K : PySem.W.Frag} {r : R2} {g : G2} {ta tb : WX → TE} (hr : R2S K S r g) (ha : SimE K S ta pa) (hb : SimE K S tb pb) : SimE K S (fun W => tOp r (ta W) (tb W)) (pBin g pa pb) :=
  fun W wp B N H σ ρ Q Q' R hw q k => ha W wp B N H σ ρ _ _ R hw q fun N1 H1 x dx ρ1 R1 e1 r1 q1 => hb W wp B N1 H1 σ ρ1 _ _ R1 hw q1 fun N2 H2 y dy ρ2 R2 e2 r2 q2 =>
    hr B N2 H2 σ ρ2 x y dx dy _ _ R2 (r1.up e2) r2 q2 fun N3 H3 v d R3 e3 r3 q3 => k N3 H3 v d ρ2 R3 ((e1.trans e2).trans e3) r3 q3
theorem je_op {op : Operator} {r : R2} {g : G2} (ho : OpR X (binaryOp op) r) (hr : R2S X.K S r g) (ha : JE S X a pa) (hb : JE S X b pb) : JE S X (.BinOp a op b pos) (pBin g pa pb) := by
  obtain ⟨ta, a1, a2⟩ := ha
  obtain ⟨tb, b1, b2⟩ := hb
  exact ⟨fun W => tOp r (ta W) (tb W), fun W h => pe_op ho (a1 W h) (b1 W h), sim_op hr a2 b2⟩
theorem je_cmp {op : CmpOp} {r : R2} {g : G2} (ho : OpR X (compareOp op) r) (hr : R2S X.K S r g) (ha : JE S X a pa) (hb : JE S X b pb) (hm : behindInMarks op b = false := by rfl) : JE S X (.Compare a [op] [b] pos) (pBin g pa pb) := by
  obtain ⟨ta, a1, a2⟩ := ha
  obtain ⟨tb, b1, b2⟩ := hb
  exact ⟨fun W => tOp r (ta W) (tb W), fun W h => pe_cmpR ho (a1 W h) (b1 W h) hm, sim_op hr a2 b2⟩
/-- a value that is a bool, as a test -/
def pTest (p : PTE) : PTT := fun wp ρ Q => p wp ρ fun d ρ1 => match d with
  | .bool k => Q k ρ1
  | _ => False
theorem sim_test {K : PySem.W.Frag} {ta : WX → TE} (ha : SimE K S ta pa) : SimT K S (fun W => tTest (ta W)) (pTest pa) := fun W wp B N H σ ρ Q Q' R hw q k =>
  ha W wp B N H σ ρ _ _ R hw q fun N1 H1 x dx ρ1 R1 e1 r1 q1 => by
    cases r1 with
    | bl c => exact ⟨c, rfl, k N1 H1 c ρ1 R1 e1 q1⟩
    | _ => exact q1.elim
theorem jt_cmp {op : CmpOp} {r : R2} {g : G2} (ho : OpR X (compareOp op) r) (hr : R2S X.K S r g) (ha : JE S X a pa) (hb : JE S X b pb) (hm : behindInMarks op b = false := by rfl) : JT S X (.Compare a [op] [b] pos) (pTest (pBin g pa pb)) := by
  obtain ⟨ta, a1, a2⟩ := ha
  obtain ⟨tb, b1, b2⟩ := hb
  exact ⟨fun W => tTest (tOp r (ta W) (tb W)), fun W h => pt_cmpR ho (a1 W h) (b1 W h) hm, sim_test (sim_op hr a2 b2)⟩
theorem jt_val (ha : JE S X a pa) (he : ∀ whole, isTrue a X.env whole = (do let v ← whole; standAt a.pos; holding [v] (truthy v)) := by intro _; rfl) : JT S X a (pTest pa) := by
  obtain ⟨ta, a1, a2⟩ := ha
  exact ⟨fun W => tB (ta W), fun W h => pt_val (a1 W h) he, sim_test a2⟩
/-- the truth of a datum -/
def truD : PyData → Bool
  | .none => false
  | .bool k => k
  | .int i => i != 0
  | .str x => (x.length : Int) != 0
  | .list ds => !ds.isEmpty
  | .tuple ds => !ds.isEmpty
  | .dict _ => false
def strFit : PyData → Prop
  | .str x => x.length ≤ sizeLine
  | _ => True
def pTru (p : PTE) : PTT := fun wp ρ Q => p wp ρ fun d ρ1 => strFit d ∧ Q (truD d) ρ1
theorem isEmpty_all {K : PySem.W.Frag} {M : Hp} {vs : List V} {ds : List PyData} (h : RpAll K M vs ds) : vs.isEmpty = ds.isEmpty := by
  cases h <;> rfl
theorem Rp.tru {K : PySem.W.Frag} {N H : Hp} (e : Ex N H) {v : V} {d : PyData} (r : Rp K N v d) (f : strFit d) : TruV K v H (truD d) := by
  cases r with
  | non => rfl
  | bl b => rfl
  | int i => rfl
  | str x => exact ⟨f, rfl⟩
  | lst h1 h2 => exact .inl ⟨_, .inl (.inl (e _ _ h1)), by rw [isEmpty_all h2]; rfl⟩
  | tup h1 h2 => exact .inr (.inl ⟨_, ex_t e h1, by rw [isEmpty_all h2]; rfl⟩)
theorem jt_truth (ha : JE S X a pa) (he : ∀ whole, isTrue a X.env whole = (do let v ← whole; standAt a.pos; holding [v] (truthy v)) := by intro _; rfl) : JT S X a (pTru pa) := by
  obtain ⟨ta, a1, a2⟩ := ha
  refine ⟨fun W σ H Q => ta W σ H fun x H' => ∃ k, TruV X.K x H' k ∧ Q k H', fun W h => pt_truth (a1 W h) he, fun W wp B N H σ ρ Q Q' R hw q k => a2 W wp B N H σ ρ _ _ R hw q fun N1 H1 x dx ρ1 R1 e1 r1 q1 => ?_⟩
  exact ⟨_, r1.tru R1.sub q1.1, k N1 H1 _ ρ1 R1 e1 q1.2⟩

/-! ### and, or, not, if -/
def pAnd (p q : PTT) : PTT := fun wp ρ Q => p wp ρ fun k ρ1 => if k = true then q wp ρ1 Q else Q false ρ1
def pOr (p q : PTT) : PTT := fun wp ρ Q => p wp ρ fun k ρ1 => if k = true then Q true ρ1 else q wp ρ1 Q
def pNot (p : PTT) : PTT := fun wp ρ Q => p wp ρ fun k ρ1 => Q (!k) ρ1
variable {qa qb : PTT} {rest : List Expr}
theorem sim_and {K : PySem.W.Frag} {ta tb : WX → TT} (ha : SimT K S ta qa) (hb : SimT K S tb qb) : SimT K S (fun W => tAnd (ta W) (tb W)) (pAnd qa qb) := fun W wp B N H σ ρ Q Q' R hw q k =>
  ha W wp B N H σ ρ _ _ R hw q fun N1 H1 c ρ1 R1 e1 q1 => by
    cases c with
    | true => rw [if_pos rfl] at q1 ⊢; exact hb W wp B N1 H1 σ ρ1 _ _ R1 hw q1 fun N2 H2 c ρ2 R2 e2 q2 => k N2 H2 c ρ2 R2 (e1.trans e2) q2
    | false => rw [if_neg Bool.false_ne_true] at q1 ⊢; exact k N1 H1 _ ρ1 R1 e1 q1
theorem sim_or {K : PySem.W.Frag} {ta tb : WX → TT} (ha : SimT K S ta qa) (hb : SimT K S tb qb) : SimT K S (fun W => tOr (ta W) (tb W)) (pOr qa qb) := fun W wp B N H σ ρ Q Q' R hw q k =>
  ha W wp B N H σ ρ _ _ R hw q fun N1 H1 c ρ1 R1 e1 q1 => by
    cases c with
    | true => rw [if_pos rfl] at q1 ⊢; exact k N1 H1 _ ρ1 R1 e1 q1
    | false => rw [if_neg Bool.false_ne_true] at q1 ⊢; exact hb W wp B N1 H1 σ ρ1 _ _ R1 hw q1 fun N2 H2 c ρ2 R2 e2 q2 => k N2 H2 c ρ2 R2 (e1.trans e2) q2
theorem jw_pt (h : JW S X e qa) : JT S X e qa := let ⟨t, h1, h2⟩ := h; ⟨t, fun W k => (h1 W k).pt, h2⟩
theorem jw_and1 (ha : JT S X a qa) : JW S X (.BoolOp .And [a] pos) qa := let ⟨t, h1, h2⟩ := ha; ⟨t, fun W k => pw_and1 (h1 W k), h2⟩
theorem jw_or1 (ha : JT S X a qa) : JW S X (.BoolOp .Or [a] pos) qa := let ⟨t, h1, h2⟩ := ha; ⟨t, fun W k => pw_or1 (h1 W k), h2⟩
theorem jw_and (ha : JT S X a qa) (hb : JW S X (.BoolOp .And (b :: rest) pos) qb) : JW S X (.BoolOp .And (a :: b :: rest) pos) (pAnd qa qb) :=
  let ⟨t, h1, h2⟩ := ha; let ⟨u, g1, g2⟩ := hb; ⟨fun W => tAnd (t W) (u W), fun W k => pw_and (h1 W k) (g1 W k), sim_and h2 g2⟩
theorem jw_or (ha : JT S X a qa) (hb : JW S X (.BoolOp .Or (b :: rest) pos) qb) : JW S X (.BoolOp .Or (a :: b :: rest) pos) (pOr qa qb) :=
  let ⟨t, h1, h2⟩ := ha; let ⟨u, g1, g2⟩ := hb; ⟨fun W => tOr (t W) (u W), fun W k => pw_or (h1 W k) (g1 W k), sim_or h2 g2⟩
theorem jt_not (ha : JT S X a qa) : JT S X (.UnaryOp .Not a pos) (pNot qa) :=
  let ⟨t, h1, h2⟩ := ha; ⟨fun W => tNot (t W), fun W k => pt_not (h1 W k), fun W wp B N H σ ρ Q Q' R hw q k => h2 W wp B N H σ ρ _ _ R hw q fun N1 H1 c ρ1 R1 e1 q1 => k N1 H1 _ ρ1 R1 e1 q1⟩
def pAndV (p q : PTE) : PTE := fun wp ρ Q => p wp ρ fun d ρ1 => match d with
  | .bool k => if k = true then q wp ρ1 Q else Q (.bool false) ρ1
  | _ => False
def pOrV (p q : PTE) : PTE := fun wp ρ Q => p wp ρ fun d ρ1 => match d with
  | .bool k => if k = true then Q (.bool true) ρ1 else q wp ρ1 Q
  | _ => False
def pNotV (p : PTE) : PTE := fun wp ρ Q => p wp ρ fun d ρ1 => match d with
  | .bool k => Q (.bool (!k)) ρ1
  | _ => False
theorem je_one {op : BoolOp} (ha : JE S X a pa) : JE S X (.BoolOp op [a] pos) pa := let ⟨t, h1, h2⟩ := ha; ⟨t, fun W k => pe_one (h1 W k), h2⟩
theorem je_and (ha : JE S X a pa) (hb : JE S X (.BoolOp .And (b :: rest) pos) pb) : JE S X (.BoolOp .And (a :: b :: rest) pos) (pAndV pa pb) := by
  obtain ⟨ta, a1, a2⟩ := ha
  obtain ⟨tb, b1, b2⟩ := hb
  refine ⟨fun W => tAndV (ta W) (tb W), fun W h => pe_and (a1 W h) (b1 W h), fun W wp B N H σ ρ Q Q' R hw q k => a2 W wp B N H σ ρ _ _ R hw q fun N1 H1 x dx ρ1 R1 e1 r1 q1 => ?_⟩
  cases r1 with
  | bl c =>
    refine ⟨c, rfl, ?_⟩
    cases c with
    | true => rw [if_pos rfl]; exact b2 W wp B N1 H1 σ ρ1 _ _ R1 hw q1 fun N2 H2 c d ρ2 R2 e2 r2 q2 => k N2 H2 c d ρ2 R2 (e1.trans e2) r2 q2
    | false => rw [if_neg Bool.false_ne_true]; exact k N1 H1 _ _ ρ1 R1 e1 (.bl false) q1
  | _ => exact q1.elim
theorem je_or (ha : JE S X a pa) (hb : JE S X (.BoolOp .Or (b :: rest) pos) pb) : JE S X (.BoolOp .Or (a :: b :: rest) pos) (pOrV pa pb) := by
  obtain ⟨ta, a1, a2⟩ := ha
  obtain ⟨tb, b1, b2⟩ := hb
  refine ⟨fun W => tOrV (ta W) (tb W), fun W h => pe_or (a1 W h) (b1 W h), fun W wp B N H σ ρ Q Q' R hw q k => a2 W wp B N H σ ρ _ _ R hw q fun N1 H1 x dx ρ1 R1 e1 r1 q1 => ?_⟩
  cases r1 with
  | bl c =>
    refine ⟨c, rfl, ?_⟩
    cases c with
    | true => rw [if_pos rfl]; exact k N1 H1 _ _ ρ1 R1 e1 (.bl true) q1
    | false => rw [if_neg Bool.false_ne_true]; exact b2 W wp B N1 H1 σ ρ1 _ _ R1 hw q1 fun N2 H2 c d ρ2 R2 e2 r2 q2 => k N2 H2 c d ρ2 R2 (e1.trans e2) r2 q2
  | _ => exact q1.elim
theorem je_not (ha : JE S X a pa) : JE S X (.UnaryOp .Not a pos) (pNotV pa) := by
  obtain ⟨ta, a1, a2⟩ := ha
  refine ⟨fun W => tNotV (ta W), fun W h => pe_not (a1 W h), fun W wp B N H σ ρ Q Q' R hw q k => a2 W wp B N H σ ρ _ _ R hw q fun N1 H1 x dx ρ1 R1 e1 r1 q1 => ?_⟩
  cases r1 with
  | bl c => exact ⟨c, rfl, k N1 H1 _ _ ρ1 R1 e1 (.bl _) q1⟩
  | _ => exact q1.elim
def pIf (t : PTT) (p q : PTE) : PTE := fun wp ρ Q => t wp ρ fun k ρ1 => if k = true then p wp ρ1 Q else q wp ρ1 Q
theorem je_if (hc : JT S X c qa) (ha : JE S X a pa) (hb : JE S X b pb) : JE S X (.IfExp c a b pos) (pIf qa pa pb) := by
  obtain ⟨ta, a1, a2⟩ := ha
  obtain ⟨tb, b1, b2⟩ := hb
  obtain ⟨tc, c1, c2⟩ := hc
  refine ⟨fun W => tIf (tc W) (ta W) (tb W), fun W h => pe_ifExp (c1 W h) (a1 W h) (b1 W h), fun W wp B N H σ ρ Q Q' R hw q k => c2 W wp B N H σ ρ _ _ R hw q fun N1 H1 x ρ1 R1 e1 q1 => ?_⟩
  cases x with
  | true => rw [if_pos rfl] at q1 ⊢; exact a2 W wp B N1 H1 σ ρ1 _ _ R1 hw q1 fun N2 H2 c d ρ2 R2 e2 r2 q2 => k N2 H2 c d ρ2 R2 (e1.trans e2) r2 q2
  | false => rw [if_neg Bool.false_ne_true] at q1 ⊢; exact b2 W wp B N1 H1 σ ρ1 _ _ R1 hw q1 fun N2 H2 c d ρ2 R2 e2 r2 q2 => k N2 H2 c d ρ2 R2 (e1.trans e2) r2 q2
/-- a op b op' c -/
def pChain (g g' : G2) (pa pb pc : PTE) : PTE := fun wp ρ Q => pa wp ρ fun dx ρ1 => pb wp ρ1 fun dy ρ2 => g dx dy fun z => match z with
  | .bool k => if k = true then pc wp ρ2 fun dz ρ3 => g' dy dz fun d => Q d ρ3 else Q (.bool false) ρ2
  | _ => False
theorem sim_chain {K : PySem.W.Frag} {r r' : R2} {g g' : G2} {ta tb tc : WX → TE} (hr : R2S K S r g) (hr' : R2S K S r' g') (ha : SimE K S ta pa) (hb : SimE K S tb pb) (hc : SimE K S tc pc) : SimE K S (fun W => tChain r r' (ta W) (tb W) (tc W)) (pChain g g' pa pb pc) :=
  fun W wp B N H σ ρ Q Q' R hw q k => ha W wp B N H σ ρ _ _ R hw q fun N1 H1 x dx ρ1 R1 e1 r1 q1 => hb W wp B N1 H1 σ ρ1 _ _ R1 hw q1 fun N2 H2 y dy ρ2 R2 e2 r2 q2 =>
    hr B N2 H2 σ ρ2 x y dx dy _ _ R2 (r1.up e2) r2 q2 fun N3 H3 v d R3 e3 r3 q3 => by
      cases r3 with
      | bl c =>
        refine ⟨c, rfl, ?_⟩
        cases c with
        | true =>
          rw [if_pos rfl]
          exact hc W wp B N3 H3 σ ρ2 _ _ R3 hw q3 fun N4 H4 z dz ρ4 R4 e4 r4 q4 => hr' B N4 H4 σ ρ4 y z dy dz _ _ R4 ((r2.up e3).up e4) r4 q4 fun N5 H5 v d R5 e5 r5 q5 => k N5 H5 v d ρ4 R5 ((((e1.trans e2).trans e3).trans e4).trans e5) r5 q5
        | false =>
          rw [if_neg Bool.false_ne_true]
          exact k N3 H3 _ _ ρ2 R3 ((e1.trans e2).trans e3) (.bl false) q3
      | _ => exact q3.elim
theorem je_chain {op op' : CmpOp} {r r' : R2} {g g' : G2} (ho : OpR X (compareOp op) r) (hr : R2S X.K S r g) (ho' : OpR X (compareOp op') r') (hr' : R2S X.K S r' g') (ha : JE S X a pa) (hb : JE S X b pb) (hc : JE S X c pc)
    (hm : lastMarks [op, op'] [b, c] = false := by with_unfolding_all rfl) : JE S X (.Compare a [op, op'] [b, c] pos) (pChain g g' pa pb pc) := by
  obtain ⟨ta, a1, a2⟩ := ha
  obtain ⟨tb, b1, b2⟩ := hb
  obtain ⟨tc, c1, c2⟩ := hc
  exact ⟨fun W => tChain r r' (ta W) (tb W) (tc W), fun W h => pe_chain ho ho' (a1 W h) (b1 W h) (c1 W h) hm, sim_chain hr hr' a2 b2 c2⟩
theorem jt_chain {op op' : CmpOp} {r r' : R2} {g g' : G2} (ho : OpR X (compareOp op) r) (hr : R2S X.K S r g) (ho' : OpR X (compareOp op') r') (hr' : R2S X.K S r' g') (ha : JE S X a pa) (hb : JE S X b pb) (hc : JE S X c pc)
    (hm : lastMarks [op, op'] [b, c] = false := by with_unfolding_all rfl) : JT S X (.Compare a [op, op'] [b, c] pos) (pTest (pChain g g' pa pb pc)) := by
  obtain ⟨ta, a1, a2⟩ := ha
  obtain ⟨tb, b1, b2⟩ := hb
  obtain ⟨tc, c1, c2⟩ := hc
  exact ⟨fun W => tTest (tChain r r' (ta W) (tb W) (tc W)), fun W h => pt_chain ho ho' (a1 W h) (b1 W h) (c1 W h) hm, sim_test (sim_chain hr hr' a2 b2 c2)⟩
end
end PD

set_option Elab.async false
set_option linter.all false
set_option maxRecDepth 100000
/-! Operators, subscripts, displays, built-in calls told over data. -/
namespace PD
open PySem L2 GxR

theorem op_imp {X : Cx} {f : Value → Value → Sem Value} {r r' : R2} (h : OpR X f r) (k : ∀ x y H Q, r' x y H Q → r x y H Q) : OpR X f r' :=
  fun pins s σ H x y v u Q I rx ry q => h pins s σ H x y v u Q I rx ry (k _ _ _ _ q)

/-! ### ints -/
def gI0 (f : Int → Int → PyData) : G2 := fun dx dy Q => match dx, dy with
  | .int i, .int j => Q (f i j)
  | _, _ => False
def gI (C : Int → Int → Prop) (f : Int → Int → PyData) : G2 := fun dx dy Q => match dx, dy with
  | .int i, .int j => C i j ∧ Q (f i j)
  | _, _ => False
section
variable {K : PySem.W.Frag} {S : Src}
theorem s_I0 {f : Int → Int → V} {g : Int → Int → PyData} (h : ∀ i j M, Rp K M (f i j) (g i j)) : R2S K S (rI0 f) (gI0 g) := fun B N H σ ρ x y dx dy Q Q' R rx ry q k => by
  cases rx with
  | int i =>
    cases ry with
    | int j => exact ⟨i, j, rfl, rfl, k N H _ _ R (Ex.refl _) (h i j N) q⟩
    | _ => exact q.elim
  | _ => first | exact q.elim | (cases ry <;> exact q.elim)
theorem s_I {C : Int → Int → Prop} {f : Int → Int → V} {g : Int → Int → PyData} (h : ∀ i j M, Rp K M (f i j) (g i j)) : R2S K S (rI C f) (gI C g) := fun B N H σ ρ x y dx dy Q Q' R rx ry q k => by
  cases rx with
  | int i =>
    cases ry with
    | int j => exact ⟨i, j, rfl, rfl, q.1, k N H _ _ R (Ex.refl _) (h i j N) q.2⟩
    | _ => exact q.elim
  | _ => first | exact q.elim | (cases ry <;> exact q.elim)
end
def CDivA (i j : Int) : Prop := 0 < j ∧ (j < 18446744073709551616 ∨ j.natAbs.log2 < 9000)
def CMulA (i j : Int) : Prop := ((-18446744073709551616 < i ∧ i < 18446744073709551616) ∨ (-18446744073709551616 < j ∧ j < 18446744073709551616)) ∨ CMulW i j
def CPowA (i j : Int) : Prop := 0 ≤ j ∧ j ≤ 1000000 ∧ i.natAbs < 18446744073709551616
section
variable {X : Cx}
theorem op_div : OpR X (binaryOp .FloorDiv) (rI CDivA fun i j => .int (i / j)) := op_imp op_fdivW fun x y H Q ⟨i, j, e1, e2, ⟨h1, h2⟩, q⟩ => ⟨i, j, e1, e2, ⟨h1, h2.elim (fun z => by
  have z2 : j.natAbs < 2 ^ 64 := by omega
  have := PySem.Flt.log2_lt_of (by decide) z2
  omega) id⟩, q⟩
theorem op_mulA : OpR X (binaryOp .Mult) (rI CMulA fun i j => .int (i * j)) := op_imp (op_mul.or op_mulW) fun x y H Q ⟨i, j, e1, e2, h, q⟩ => h.elim (fun z => .inl ⟨i, j, e1, e2, z, q⟩) fun z => .inr ⟨i, j, e1, e2, z, q⟩
end
abbrev gSub : G2 := gI0 fun i j => .int (i - j)
abbrev gDiv : G2 := gI CDivA fun i j => .int (i / j)
abbrev gMod : G2 := gI (fun _ j => 0 < j) fun i j => .int (i % j)
abbrev gPow : G2 := gI CPowA fun i j => .int (i ^ j.toNat)
abbrev gShr : G2 := gI (fun _ j => 0 ≤ j) fun i j => .int (i / 2 ^ j.toNat)
abbrev gXor : G2 := gI0 fun i j => .int (Builtin.bitXor i j)
/-! ### + and * -/
def gAdd : G2 := fun dx dy Q => match dx, dy with
  | .int i, .int j => Q (.int (i + j))
  | .int i, .bool k => Q (.int (i + PyProof.Rows.b2i k))
  | .str x, .str y => x.length + y.length ≤ sizeLine ∧ Q (.str (x ++ y))
  | .list xs, .list ys => xs.length + ys.length ≤ sizeLine ∧ Q (.list (xs ++ ys))
  | .tuple xs, .tuple ys => xs.length + ys.length ≤ sizeLine ∧ Q (.tuple (xs ++ ys))
  | _, _ => False
def rAddA (K : PySem.W.Frag) : R2 := fun x y H Q => (((rI0 (fun i j => V.int (i + j)) x y H Q ∨ (∃ i k, x = .int i ∧ y = .bl k ∧ Q (.int (i + PyProof.Rows.b2i k)) H)) ∨ (∃ i j, x = .str i ∧ y = .str j ∧ i.length + j.length ≤ sizeLine ∧ Q (.str (i ++ j)) H)) ∨ rCat x y H Q) ∨ rCatA K x y H Q
theorem op_addA {X : Cx} : OpR X (binaryOp .Add) (rAddA X.K) := (((op_add.or op_add_ib).or op_add_str).or op_cat).or op_catA
theorem ne_nil_of {K : PySem.W.Frag} {M : Hp} {vs : List V} {ds : List PyData} (h : RpAll K M vs ds) (n : ds ≠ []) : vs ≠ [] := by
  cases h with
  | nil => exact absurd rfl n
  | cons _ _ => exact List.cons_ne_nil _ _
theorem s_add {K : PySem.W.Frag} {S : Src} : R2S K S (rAddA K) gAdd := fun B N H σ ρ x y dx dy Q Q' R rx ry q k => by
  cases rx with
  | int i =>
    cases ry with
    | int j => exact .inl (.inl (.inl (.inl ⟨i, j, rfl, rfl, k N H _ _ R (Ex.refl _) (.int _) q⟩)))
    | bl b => exact .inl (.inl (.inl (.inr ⟨i, b, rfl, rfl, k N H _ _ R (Ex.refl _) (.int _) q⟩)))
    | _ => exact q.elim
  | str z =>
    cases ry with
    | str z' => exact .inl (.inl (.inr ⟨z, z', rfl, rfl, q.1, k N H _ _ R (Ex.refl _) (.str _) q.2⟩))
    | _ => exact q.elim
  | lst h1 h2 =>
    cases ry with
    | lst g1 g2 =>
      refine .inl (.inr ⟨_, _, _, _, rfl, rfl, R.sub _ _ h1, R.sub _ _ g1, by rw [h2.length, g2.length]; exact q.1, fun p hp => ?_⟩)
      exact k _ _ _ _ (R.newM hp) (Ex.new (R.sub.none hp)) (.lst upd_same ((h2.append g2).up (Ex.new (R.sub.none hp)))) q.2
    | _ => exact q.elim
  | tup h1 h2 =>
    cases ry with
    | tup g1 g2 =>
      refine .inr ⟨_, _, _, _, rfl, rfl, ex_t R.sub h1, ex_t R.sub g1, by rw [h2.length, g2.length]; exact q.1, fun e => ?_, fun _ e => ?_, fun _ _ p hp => ?_⟩
      · subst e
        cases h2
        exact k N H _ _ R (Ex.refl _) (.tup g1 g2) q.2
      · subst e
        cases g2
        have q2 := q.2
        rw [List.append_nil] at q2
        exact k N H _ _ R (Ex.refl _) (.tup h1 h2) q2
      · exact k _ _ _ _ (R.newM hp) (Ex.new (R.sub.none hp)) (.tup (.inl (.inl upd_same)) ((h2.append g2).up (Ex.new (R.sub.none hp)))) q.2
    | _ => exact q.elim
  | _ => first | exact q.elim | (cases ry <;> exact q.elim)
def gMul : G2 := fun dx dy Q => match dx, dy with
  | .int i, .int j => CMulA i j ∧ Q (.int (i * j))
  | .list xs, .int j => -9223372036854775808 ≤ j ∧ j < 9223372036854775808 ∧ xs.length * j.toNat ≤ sizeLine ∧ Q (.list (List.replicate j.toNat xs).flatten)
  | _, _ => False
theorem RpAll.rep {K : PySem.W.Frag} {M : Hp} {vs : List V} {ds : List PyData} (h : RpAll K M vs ds) : ∀ n : Nat, RpAll K M (List.replicate n vs).flatten (List.replicate n ds).flatten
  | 0 => .nil
  | n + 1 => by
    rw [List.replicate_succ, List.replicate_succ, List.flatten_cons, List.flatten_cons]
    exact h.append (RpAll.rep h n)
theorem s_mul {K : PySem.W.Frag} {S : Src} : R2S K S (fun x y H Q => rI CMulA (fun i j => V.int (i * j)) x y H Q ∨ rRep x y H Q) gMul := fun B N H σ ρ x y dx dy Q Q' R rx ry q k => by
  cases rx with
  | int i =>
    cases ry with
    | int j => exact .inl ⟨i, j, rfl, rfl, q.1, k N H _ _ R (Ex.refl _) (.int _) q.2⟩
    | _ => exact q.elim
  | lst h1 h2 =>
    cases ry with
    | int j =>
      refine .inr ⟨_, j, _, rfl, rfl, R.sub _ _ h1, q.1, q.2.1, by rw [h2.length]; exact q.2.2.1, fun p hp => ?_⟩
      exact k _ _ _ _ (R.newM hp) (Ex.new (R.sub.none hp)) (.lst upd_same ((h2.rep _).up (Ex.new (R.sub.none hp)))) q.2.2.2
    | _ => exact q.elim
  | _ => first | exact q.elim | (cases ry <;> exact q.elim)
/-! ### comparisons -/
def gOrd (f : Int → Int → Bool) (g : List Nat → List Nat → Bool) : G2 := fun dx dy Q => match dx, dy with
  | .int i, .int j => Q (.bool (f i j))
  | .str x, .str y => Q (.bool (g x.cps.toList y.cps.toList))
  | _, _ => False
def rOrd (f : Int → Int → Bool) (g : List Nat → List Nat → Bool) : R2 := fun x y H Q => rI0 (fun i j => V.bl (f i j)) x y H Q ∨ (∃ i j, x = .str i ∧ y = .str j ∧ Q (.bl (g i.cps.toList j.cps.toList)) H)
theorem s_ord {K : PySem.W.Frag} {S : Src} {f : Int → Int → Bool} {g : List Nat → List Nat → Bool} : R2S K S (rOrd f g) (gOrd f g) := fun B N H σ ρ x y dx dy Q Q' R rx ry q k => by
  cases rx with
  | int i =>
    cases ry with
    | int j => exact .inl ⟨i, j, rfl, rfl, k N H _ _ R (Ex.refl _) (.bl _) q⟩
    | _ => exact q.elim
  | str z =>
    cases ry with
    | str z' => exact .inr ⟨z, z', rfl, rfl, k N H _ _ R (Ex.refl _) (.bl _) q⟩
    | _ => exact q.elim
  | _ => first | exact q.elim | (cases ry <;> exact q.elim)
abbrev gLt : G2 := gOrd (fun i j => decide (i < j)) fun x y => decide (x < y)
abbrev gLe : G2 := gOrd (fun i j => decide (i ≤ j)) fun x y => !decide (y < x)
abbrev gGt : G2 := gOrd (fun i j => decide (j < i)) fun x y => decide (y < x)
abbrev gGe : G2 := gOrd (fun i j => decide (j ≤ i)) fun x y => !decide (x < y)
section
variable {X : Cx}
theorem op_ltA : OpR X (compareOp .Lt) (rOrd (fun i j => decide (i < j)) fun x y => decide (x < y)) := op_lt.or op_lt_str
theorem op_leA : OpR X (compareOp .LtE) (rOrd (fun i j => decide (i ≤ j)) fun x y => !decide (y < x)) := op_le.or op_le_str
theorem op_gtA : OpR X (compareOp .Gt) (rOrd (fun i j => decide (j < i)) fun x y => decide (y < x)) := op_gt.or op_gt_str
theorem op_geA : OpR X (compareOp .GtE) (rOrd (fun i j => decide (j ≤ i)) fun x y => !decide (x < y)) := op_ge.or op_ge_str
end
def flatD : PyData → Bool
  | .none => true
  | .bool _ => true
  | .int _ => true
  | .str _ => true
  | _ => false
def mixD : PyData → PyData → Bool
  | .bool _, .int _ => true
  | .int _, .bool _ => true
  | _, _ => false
/-- == of data -/
def eqD (dx dy : PyData) : Prop := (flatD dx = true ∧ flatD dy = true ∧ mixD dx dy = false) ∨ (SeqAt.shaped dx = true ∧ SeqAt.shaped dy = true)
def gEq : G2 := fun dx dy Q => eqD dx dy ∧ Q (.bool (PyData.eqv dx dy))
def gNe : G2 := fun dx dy Q => eqD dx dy ∧ Q (.bool (!PyData.eqv dx dy))
theorem eq_flat {K : PySem.W.Frag} {N : Hp} {x y : V} {dx dy : PyData} (rx : Rp K N x dx) (ry : Rp K N y dy) (h : flatD dx = true ∧ flatD dy = true ∧ mixD dx dy = false) : scal x y = true ∧ decide (x = y) = PyData.eqv dx dy := by
  cases rx <;> cases ry <;> first
    | exact ⟨rfl, dec_int⟩
    | exact ⟨rfl, dec_bl⟩
    | exact ⟨rfl, dec_str⟩
    | exact absurd h.1 Bool.false_ne_true
    | exact absurd h.2.1 Bool.false_ne_true
    | exact absurd h.2.2.symm Bool.false_ne_true
    | exact ⟨rfl, rfl⟩
theorem s_eq {K : PySem.W.Frag} {S : Src} : R2S K S (fun x y H Q => rEq x y H Q ∨ rEqD K x y H Q) gEq := fun B N H σ ρ x y dx dy Q Q' R rx ry q k => by
  obtain ⟨h | ⟨h1, h2⟩, q⟩ := q
  · obtain ⟨e1, e2⟩ := eq_flat rx ry h
    refine .inl ⟨e1, ?_⟩
    rw [e2]
    exact k N H _ _ R (Ex.refl _) (.bl _) q
  · exact .inr ⟨dx, dy, Rp.dp R.sub _ _ rx, Rp.dp R.sub _ _ ry, h1, h2, k N H _ _ R (Ex.refl _) (.bl _) q⟩
theorem s_ne {K : PySem.W.Frag} {S : Src} : R2S K S (fun x y H Q => rNe x y H Q ∨ rNeD K x y H Q) gNe := fun B N H σ ρ x y dx dy Q Q' R rx ry q k => by
  obtain ⟨h | ⟨h1, h2⟩, q⟩ := q
  · obtain ⟨e1, e2⟩ := eq_flat rx ry h
    refine .inl ⟨e1, ?_⟩
    rw [e2]
    exact k N H _ _ R (Ex.refl _) (.bl _) q
  · exact .inr ⟨dx, dy, Rp.dp R.sub _ _ rx, Rp.dp R.sub _ _ ry, h1, h2, k N H _ _ R (Ex.refl _) (.bl _) q⟩
/-! ### in -/
def memD (dx : PyData) (ds : List PyData) : Bool := ds.any fun z => PyData.eqv z dx
def inOk (dx : PyData) (ds : List PyData) : Prop := flatD dx = true ∧ ds.all flatD = true
def gIn (neg : Bool) : G2 := fun dx dy Q => match dy with
  | .list ds => inOk dx ds ∧ Q (.bool (if neg then !memD dx ds else memD dx ds))
  | .tuple ds => inOk dx ds ∧ Q (.bool (if neg then !memD dx ds else memD dx ds))
  | .str y => match dx with
    | .str x => Q (.bool (if neg then !(!(Builtin.Str.occurrences y x 0 y.length 1).isEmpty) else !(Builtin.Str.occurrences y x 0 y.length 1).isEmpty))
    | _ => False
  | _ => False
theorem flat_rp {K : PySem.W.Frag} {N : Hp} {x : V} {d : PyData} (r : Rp K N x d) : flatV x = flatD d := by cases r <;> rfl
theorem flat_all {K : PySem.W.Frag} {N : Hp} : ∀ {vs : List V} {ds : List PyData}, RpAll K N vs ds → vs.all flatV = ds.all flatD
  | _, _, .nil => rfl
  | _, _, .cons h t => by rw [List.all_cons, List.all_cons, flat_rp h, flat_all t]
theorem eqV_rp {K : PySem.W.Frag} {N : Hp} {x y : V} {d e : PyData} (r : Rp K N x d) (r' : Rp K N y e) (f : flatD d = true) (g : flatD e = true) : eqV x y = PyData.eqv d e := by
  cases r <;> cases r' <;> first
    | exact absurd f Bool.false_ne_true
    | exact absurd g Bool.false_ne_true
    | rfl
theorem inV_rp {K : PySem.W.Frag} {N : Hp} {x : V} {d : PyData} (r : Rp K N x d) (f : flatD d = true) : ∀ {vs : List V} {ds : List PyData}, RpAll K N vs ds → ds.all flatD = true → inV x vs = memD d ds
  | _, _, .nil, _ => rfl
  | _, _, .cons h t, g => by
    rw [List.all_cons, Bool.and_eq_true] at g
    unfold inV memD
    rw [List.any_cons, List.any_cons, eqV_rp h r g.1 f]
    have e := inV_rp r f t g.2
    unfold inV memD at e
    rw [e]
def rInA (K : PySem.W.Frag) (neg : Bool) : R2 := fun x y H Q => rIn K neg x y H Q ∨ (∃ i j, x = .str i ∧ y = .str j ∧ Q (.bl (if neg then !(!(Builtin.Str.occurrences j i 0 j.length 1).isEmpty) else !(Builtin.Str.occurrences j i 0 j.length 1).isEmpty)) H)
theorem s_in {K : PySem.W.Frag} {S : Src} {neg : Bool} : R2S K S (rInA K neg) (gIn neg) := fun B N H σ ρ x y dx dy Q Q' R rx ry q k => by
  cases ry with
  | lst h1 h2 =>
    refine .inl ⟨_, _, rfl, .inl (.inl (.inl (R.sub _ _ h1))), by rw [flat_rp rx]; exact q.1.1, by rw [flat_all h2]; exact q.1.2, ?_⟩
    rw [inV_rp rx q.1.1 h2 q.1.2]
    exact k N H _ _ R (Ex.refl _) (.bl _) q.2
  | tup h1 h2 =>
    refine .inl ⟨_, _, rfl, .inr (ex_t R.sub h1), by rw [flat_rp rx]; exact q.1.1, by rw [flat_all h2]; exact q.1.2, ?_⟩
    rw [inV_rp rx q.1.1 h2 q.1.2]
    exact k N H _ _ R (Ex.refl _) (.bl _) q.2
  | str z =>
    cases rx with
    | str z' => exact .inr ⟨_, _, rfl, rfl, k N H _ _ R (Ex.refl _) (.bl _) q⟩
    | _ => exact q.elim
  | _ => exact q.elim
theorem op_inA {X : Cx} : OpR X (compareOp .In) (rInA X.K false) := op_in_seq.or op_in_str
theorem op_notInA {X : Cx} : OpR X (compareOp .NotIn) (rInA X.K true) := op_notIn_seq.or op_notIn_str
/-! ### is -/
def isN : PyData → Bool
  | .none => true
  | _ => false
def gIs : G2 := fun dx dy Q => match dy with
  | .none => Q (.bool (isN dx))
  | .bool b => match dx with
    | .bool a => Q (.bool (decide (a = b)))
    | _ => False
  | _ => False
def gIsNot : G2 := fun dx dy Q => match dy with
  | .none => Q (.bool (!isN dx))
  | .bool b => match dx with
    | .bool a => Q (.bool (!decide (a = b)))
    | _ => False
  | _ => False
theorem isN_rp {K : PySem.W.Frag} {N : Hp} {x : V} {d : PyData} (r : Rp K N x d) : decide (x = .non) = isN d := by cases r <;> rfl
theorem s_is {K : PySem.W.Frag} {S : Src} : R2S K S (fun x y H Q => (y = .non ∧ Q (.bl (decide (x = .non))) H) ∨ (∃ a b, x = .bl a ∧ y = .bl b ∧ Q (.bl (decide (a = b))) H)) gIs := fun B N H σ ρ x y dx dy Q Q' R rx ry q k => by
  cases ry with
  | non =>
    refine .inl ⟨rfl, ?_⟩
    rw [isN_rp rx]
    exact k N H _ _ R (Ex.refl _) (.bl _) q
  | bl b =>
    cases rx with
    | bl a => exact .inr ⟨a, b, rfl, rfl, k N H _ _ R (Ex.refl _) (.bl _) q⟩
    | _ => exact q.elim
  | _ => exact q.elim
theorem s_isnot {K : PySem.W.Frag} {S : Src} : R2S K S (fun x y H Q => (y = .non ∧ Q (.bl (!decide (x = .non))) H) ∨ (∃ a b, x = .bl a ∧ y = .bl b ∧ Q (.bl (!decide (a = b))) H)) gIsNot := fun B N H σ ρ x y dx dy Q Q' R rx ry q k => by
  cases ry with
  | non =>
    refine .inl ⟨rfl, ?_⟩
    rw [isN_rp rx]
    exact k N H _ _ R (Ex.refl _) (.bl _) q
  | bl b =>
    cases rx with
    | bl a => exact .inr ⟨a, b, rfl, rfl, k N H _ _ R (Ex.refl _) (.bl _) q⟩
    | _ => exact q.elim
  | _ => exact q.elim

/-! ### the rules by their operators -/
section
variable {S : Src} {X : Cx} {e a b : Expr} {es : List Expr} {pos : Pos} {pa pb : PTE}
theorem je_add (ha : JE S X a pa) (hb : JE S X b pb) : JE S X (.BinOp a .Add b pos) (pBin gAdd pa pb) := je_op op_addA s_add ha hb
theorem je_sub (ha : JE S X a pa) (hb : JE S X b pb) : JE S X (.BinOp a .Sub b pos) (pBin gSub pa pb) := je_op op_sub (s_I0 fun _ _ _ => .int _) ha hb
theorem je_mul (ha : JE S X a pa) (hb : JE S X b pb) : JE S X (.BinOp a .Mult b pos) (pBin gMul pa pb) := je_op (op_mulA.or op_rep) s_mul ha hb
theorem je_div (ha : JE S X a pa) (hb : JE S X b pb) : JE S X (.BinOp a .FloorDiv b pos) (pBin gDiv pa pb) := je_op op_div (s_I fun _ _ _ => .int _) ha hb
theorem je_mod (ha : JE S X a pa) (hb : JE S X b pb) : JE S X (.BinOp a .Mod b pos) (pBin gMod pa pb) := je_op op_mod (s_I fun _ _ _ => .int _) ha hb
theorem je_pow (ha : JE S X a pa) (hb : JE S X b pb) : JE S X (.BinOp a .Pow b pos) (pBin gPow pa pb) := je_op op_pow (s_I fun _ _ _ => .int _) ha hb
theorem je_shr (ha : JE S X a pa) (hb : JE S X b pb) : JE S X (.BinOp a .RShift b pos) (pBin gShr pa pb) := je_op op_shr (s_I fun _ _ _ => .int _) ha hb
theorem je_xor (ha : JE S X a pa) (hb : JE S X b pb) : JE S X (.BinOp a .BitXor b pos) (pBin gXor pa pb) := je_op op_xor (s_I0 fun _ _ _ => .int _) ha hb
/-- a comparison's rule with what it does to data -/
structure Cm (S : Src) (X : Cx) (op : CmpOp) (g : G2) : Prop where
  ex : ∃ r, OpR X (compareOp op) r ∧ R2S X.K S r g
theorem c_lt : Cm S X .Lt gLt := ⟨_, op_ltA, s_ord⟩
theorem c_le : Cm S X .LtE gLe := ⟨_, op_leA, s_ord⟩
theorem c_gt : Cm S X .Gt gGt := ⟨_, op_gtA, s_ord⟩
theorem c_ge : Cm S X .GtE gGe := ⟨_, op_geA, s_ord⟩
theorem c_eq {k : Nat} (hr : L2H.RoomH k X.A) : Cm S X .Eq gEq := ⟨_, op_eq.or (op_eqD (by have := hr.un; omega)), s_eq⟩
theorem c_ne {k : Nat} (hr : L2H.RoomH k X.A) : Cm S X .NotEq gNe := ⟨_, op_ne.or (op_neD (by have := hr.un; omega)), s_ne⟩
theorem c_is : Cm S X .Is gIs := ⟨_, op_isN.or op_is_bl, s_is⟩
theorem c_isnot : Cm S X .IsNot gIsNot := ⟨_, op_notN.or op_isnot_bl, s_isnot⟩
theorem c_in : Cm S X .In (gIn false) := ⟨_, op_inA, s_in⟩
theorem c_notin : Cm S X .NotIn (gIn true) := ⟨_, op_notInA, s_in⟩
variable {op op' : CmpOp} {g g' : G2} {c : Expr} {pc : PTE}
theorem je_cm (h : Cm S X op g) (ha : JE S X a pa) (hb : JE S X b pb) (hm : behindInMarks op b = false := by rfl) : JE S X (.Compare a [op] [b] pos) (pBin g pa pb) := let ⟨r, h1, h2⟩ := h.ex; je_cmp h1 h2 ha hb hm
theorem jt_cm (h : Cm S X op g) (ha : JE S X a pa) (hb : JE S X b pb) (hm : behindInMarks op b = false := by rfl) : JT S X (.Compare a [op] [b] pos) (pTest (pBin g pa pb)) := let ⟨r, h1, h2⟩ := h.ex; jt_cmp h1 h2 ha hb hm
theorem je_ch (h : Cm S X op g) (h' : Cm S X op' g') (ha : JE S X a pa) (hb : JE S X b pb) (hc : JE S X c pc) (hm : lastMarks [op, op'] [b, c] = false := by with_unfolding_all rfl) : JE S X (.Compare a [op, op'] [b, c] pos) (pChain g g' pa pb pc) :=
  let ⟨r, h1, h2⟩ := h.ex; let ⟨r', h1', h2'⟩ := h'.ex; je_chain h1 h2 h1' h2' ha hb hc hm
theorem jt_ch (h : Cm S X op g) (h' : Cm S X op' g') (ha : JE S X a pa) (hb : JE S X b pb) (hc : JE S X c pc) (hm : lastMarks [op, op'] [b, c] = false := by with_unfolding_all rfl) : JT S X (.Compare a [op, op'] [b, c] pos) (pTest (pChain g g' pa pb pc)) :=
  let ⟨r, h1, h2⟩ := h.ex; let ⟨r', h1', h2'⟩ := h'.ex; jt_chain h1 h2 h1' h2' ha hb hc hm
def pNeg (p : PTE) : PTE := fun wp ρ Q => p wp ρ fun d ρ1 => match d with
  | .int i => Q (.int (-i)) ρ1
  | _ => False
theorem je_neg (ha : JE S X a pa) : JE S X (.UnaryOp .USub a pos) (pNeg pa) := by
  obtain ⟨ta, a1, a2⟩ := ha
  refine ⟨fun W => tUn (rU fun i => .int (-i)) (ta W), fun W h => pe_un un_neg (a1 W h), fun W wp B N H σ ρ Q Q' R hw q k => a2 W wp B N H σ ρ _ _ R hw q fun N1 H1 x dx ρ1 R1 e1 r1 q1 => ?_⟩
  cases r1 with
  | int i => exact ⟨i, rfl, k N1 H1 _ _ ρ1 R1 e1 (.int _) q1⟩
  | _ => exact q1.elim

/-! ### displays, argument lists -/
def pNil : PTA := fun _ ρ Q => Q [] ρ
def pCons (p : PTE) (q : PTA) : PTA := fun wp ρ Q => p wp ρ fun d ρ1 => q wp ρ1 fun ds ρ2 => Q (d :: ds) ρ2
theorem ja_nil : JA S X [] pNil := ⟨fun _ => tNil, fun _ _ => pa_nil, fun W wp B N H σ ρ Q Q' R hw q k => k N H [] [] ρ R (Ex.refl _) .nil q⟩
variable {qs : PTA}
theorem ja_cons (ha : JE S X e pa) (hr : JA S X es qs) (hs : starEach (e :: es) X.env = (false, eval e X.env) :: starEach es X.env := by rfl) : JA S X (e :: es) (pCons pa qs) := by
  obtain ⟨ta, a1, a2⟩ := ha
  obtain ⟨tb, b1, b2⟩ := hr
  exact ⟨fun W => tCons (ta W) (tb W), fun W h => pa_cons (a1 W h) (b1 W h) hs, fun W wp B N H σ ρ Q Q' R hw q k => a2 W wp B N H σ ρ _ _ R hw q fun N1 H1 x dx ρ1 R1 e1 r1 q1 => b2 W wp B N1 H1 σ ρ1 _ _ R1 hw q1 fun N2 H2 vs ds ρ2 R2 e2 r2 q2 =>
    k N2 H2 _ _ ρ2 R2 (e1.trans e2) (.cons (r1.up e2) r2) q2⟩
def pTup (q : PTA) : PTE := fun wp ρ Q => q wp ρ fun ds ρ1 => ds.length ≤ sizeLine ∧ Q (.tuple ds) ρ1
theorem je_tup {n : Nat} (h : JA S X es qs) : JE S X (.Tuple es n pos) (pTup qs) := by
  obtain ⟨t, h1, h2⟩ := h
  refine ⟨fun W => tTup (t W), fun W k => pe_tup (h1 W k), fun W wp B N H σ ρ Q Q' R hw q k => h2 W wp B N H σ ρ _ _ R hw q fun N1 H1 vs ds ρ1 R1 e1 r1 q1 => ⟨by rw [r1.length]; exact q1.1, fun p hp => ?_⟩⟩
  exact k _ _ _ _ ρ1 (R1.newM hp) (e1.trans (Ex.new (R1.sub.none hp))) (.tup (.inl (.inl upd_same)) (r1.up (Ex.new (R1.sub.none hp)))) q1.2
def pLst (q : PTA) : PTR := fun wp ρ Q => q wp ρ fun ds ρ1 => ds.length ≤ sizeLine ∧ Q (.own ds) ρ1
theorem jr_lst (h : JA S X es qs) : JR S X (.List es pos) (pLst qs) := by
  obtain ⟨t, h1, h2⟩ := h
  refine ⟨fun W => tLst (t W), fun W k => pe_lst (h1 W k), fun W wp B N H σ ρ Q Q' R hw q k => h2 W wp B N H σ ρ _ _ R hw q fun N1 H1 vs ds ρ1 R1 e1 r1 q1 => ⟨by rw [r1.length]; exact q1.1, fun p hp => ?_⟩⟩
  exact k N1 _ _ (.own ds) ρ1 (R1.newH hp) e1 ⟨p, vs, rfl, upd_same, r1, R1.sub.none hp, R1.fresh hp, R1.away hp⟩ q1.2

/-! ### subscripts -/
def gIx : G2 := fun dx dy Q => match dx, dy with
  | .list ds, .int i => ∃ d, atI ds i = some d ∧ Q d
  | .tuple ds, .int i => ∃ d, atI ds i = some d ∧ Q d
  | .str z, .int i => z.length ≤ sizeLine ∧ ∃ c, atI z.cps.toList i = some c ∧ Q (.str ⟨#[c]⟩)
  | _, _ => False
theorem at_rp {K : PySem.W.Frag} {M : Hp} {vs : List V} {ds : List PyData} {i : Int} {d : PyData} (h : RpAll K M vs ds) (e : atI ds i = some d) : ∃ v, atI vs i = some v ∧ Rp K M v d := by
  unfold atI at e ⊢
  rw [h.length]
  cases q : ixN ds.length i with
  | none => rw [q] at e; cases e
  | some j =>
    rw [q] at e
    exact h.get e
theorem s_ix {K : PySem.W.Frag} {S : Src} : R2S K S (rIx K) gIx := fun B N H σ ρ x y dx dy Q Q' R rx ry q k => by
  cases rx with
  | lst h1 h2 =>
    cases ry with
    | int i =>
      obtain ⟨d, e, q⟩ := q
      obtain ⟨v, e2, r⟩ := at_rp h2 e
      exact .inl ⟨_, _, i, v, rfl, rfl, .inl (.inl (R.sub _ _ h1)), e2, k N H _ _ R (Ex.refl _) r q⟩
    | _ => exact q.elim
  | tup h1 h2 =>
    cases ry with
    | int i =>
      obtain ⟨d, e, q⟩ := q
      obtain ⟨v, e2, r⟩ := at_rp h2 e
      exact .inr (.inl ⟨_, _, i, v, rfl, rfl, ex_t R.sub h1, e2, k N H _ _ R (Ex.refl _) r q⟩)
    | _ => exact q.elim
  | str z =>
    cases ry with
    | int i =>
      obtain ⟨hz, c, e, q⟩ := q
      exact .inr (.inr ⟨z, i, c, rfl, rfl, hz, e, k N H _ _ R (Ex.refl _) (.str _) q⟩)
    | _ => exact q.elim
  | _ => first | exact q.elim | (cases ry <;> exact q.elim)
theorem je_ix (ha : JE S X a pa) (hb : JE S X b pb) (hs : PlainIx b := by exact fun _ _ => rfl) : JE S X (.Subscript a b pos) (pBin gIx pa pb) := by
  obtain ⟨ta, a1, a2⟩ := ha
  obtain ⟨tb, b1, b2⟩ := hb
  exact ⟨fun W => tOp (rIx X.K) (ta W) (tb W), fun W h => pe_ix ix_seq (a1 W h) (b1 W h) hs, sim_op s_ix a2 b2⟩
/-- the list, the tuple at a name, looked at: what it holds now -/
def seqAt (ρ : List Sl) (i : Nat) : Option (List PyData) := match ρ[i]? with
  | some (.v (.list ds)) => some ds
  | some (.v (.tuple ds)) => some ds
  | some (.own ds) => some ds
  | some (.brw ds) => some ds
  | some (.fz ds) => some ds
  | _ => none
theorem Rel.seqAt {K : PySem.W.Frag} {B : Bs} {N H : Hp} {σ : St} {ρ : List Sl} {i : Nat} {ds : List PyData} (R : Rel K S B N H σ ρ) (h : seqAt ρ i = some ds) : ∃ a vs, σ[i]? = some (some (.ref a)) ∧ (SqL K H a vs ∨ SqT K H a vs) ∧ RpAll K N vs ds := by
  unfold PD.seqAt at h
  split at h
  · rename_i es hh
    cases h
    obtain ⟨x, ex, v, rfl, r⟩ := R.ok i _ hh
    cases r with
    | lst h1 h2 => exact ⟨_, _, ex, .inl (.inl (.inl (R.sub _ _ h1))), h2⟩
  · rename_i es hh
    cases h
    obtain ⟨x, ex, v, rfl, r⟩ := R.ok i _ hh
    cases r with
    | tup h1 h2 => exact ⟨_, _, ex, .inr (ex_t R.sub h1), h2⟩
  · rename_i es hh
    cases h
    obtain ⟨x, ex, a, vs, rfl, h1, h2, _⟩ := R.ok i _ hh
    exact ⟨a, vs, ex, .inl (.inl (.inl h1)), h2⟩
  · rename_i es hh
    cases h
    obtain ⟨x, ex, a, vs, rfl, h1, h2, _⟩ := R.ok i _ hh
    exact ⟨a, vs, ex, .inl (.inl (.inl h1)), h2⟩
  · rename_i es hh
    cases h
    obtain ⟨x, ex, a, vs, rfl, h1, h2⟩ := R.ok i _ hh
    exact ⟨a, vs, ex, .inl (ex_l R.sub h1), h2⟩
  · cases h
/-- xs[e], xs a name: xs is only looked at -/
def pIxN (i : Nat) (pb : PTE) : PTE := fun wp ρ Q => (∃ ds, seqAt ρ i = some ds) ∧ pb wp ρ fun dy ρ1 => match seqAt ρ1 i, dy with
  | some ds, .int j => ∃ d, atI ds j = some d ∧ Q d ρ1
  | _, _ => False
theorem je_ixN (i : Nat) {x : Str} {px : Pos} (hb : JE S X b pb) (hs : PlainIx b := by exact fun _ _ => rfl) (hN : X.N[i]? = some x := by rfl) (hv : Vis X.env.scope x := by first | exact Or.inl rfl | exact Or.inr (Or.inl rfl) | exact Or.inr (Or.inr rfl)) (hd : (x == ("__debug__" : Str)) = false := by decide)
    (hcd : (x == ("__classdict__" : Str)) = false := by decide) : JE S X (.Subscript (.Name x px) b pos) (pIxN i pb) := by
  obtain ⟨tb, b1, b2⟩ := hb
  refine ⟨fun W => tOp (rIx X.K) (tVar i) (tb W), fun W h => pe_ix ix_seq (pv i hN hv hd hcd) (b1 W h) hs, fun W wp B N H σ ρ Q Q' R hw q k => ?_⟩
  obtain ⟨⟨ds0, h0⟩, q⟩ := q
  obtain ⟨a, vs0, ex, _, _⟩ := R.seqAt h0
  refine ⟨.ref a, ex, b2 W wp B N H σ ρ _ _ R hw q fun N1 H1 y dy ρ1 R1 e1 r1 q1 => ?_⟩
  cases h1 : PD.seqAt ρ1 i with
  | none => rw [h1] at q1; cases dy <;> exact q1.elim
  | some ds =>
    rw [h1] at q1
    obtain ⟨a', vs, ex', hq, hr⟩ := R1.seqAt h1
    rw [ex] at ex'
    cases ex'
    cases r1 with
    | int j =>
      obtain ⟨d, e, q1⟩ := q1
      obtain ⟨v, e2, r⟩ := at_rp hr e
      rcases hq with hq | hq
      · exact .inl ⟨_, _, j, v, rfl, rfl, hq, e2, k N1 H1 _ _ ρ1 R1 e1 r q1⟩
      · exact .inr (.inl ⟨_, _, j, v, rfl, rfl, hq, e2, k N1 H1 _ _ ρ1 R1 e1 r q1⟩)
    | _ => exact q1.elim

/-! ### calls of built-ins -/
abbrev GC := List PyData → (PyData → Prop) → Prop
def CS (K : PySem.W.Frag) (S : Src) (r : List V → Hp → VK → Prop) (g : GC) : Prop := ∀ (B : Bs) (N H : Hp) (σ : St) (ρ : List Sl) (vs : List V) (ds : List PyData) (Q : VK) (Q' : PyData → Prop), Rel K S B N H σ ρ → RpAll K N vs ds → g ds Q' →
  (∀ N' H' v d, Rel K S B N' H' σ ρ → Ex N N' → Rp K N' v d → Q' d → Q v H') → r vs H Q
def pCB (g : GC) (q : PTA) : PTE := fun wp ρ Q => q wp ρ fun ds ρ1 => g ds fun d => Q d ρ1
theorem sim_cb {K : PySem.W.Frag} {r : List V → Hp → VK → Prop} {g : GC} {t : WX → TA} (hr : CS K S r g) (h : SimA K S t qs) : SimE K S (fun W => tCB r (t W)) (pCB g qs) := fun W wp B N H σ ρ Q Q' R hw q k =>
  h W wp B N H σ ρ _ _ R hw q fun N1 H1 vs ds ρ1 R1 e1 r1 q1 => hr B N1 H1 σ ρ1 vs ds _ _ R1 r1 q1 fun N2 H2 v d R2 e2 r2 q2 => k N2 H2 v d ρ1 R2 (e1.trans e2) r2 q2
variable {id T : String} {r : List V → Hp → VK → Prop} {gc : GC} {x : Str} {p : Pos}
theorem je_callB (hc : CallR X (.builtin id) r) (hr : CS X.K S r gc) (hg : Gl X x) (hm : X.mg x = none) (hv : bootBuiltins x = some (.builtin id)) (ha : JA S X (e :: es) qs) (hn : x ≠ "__name__" := by decide) (hdb : (x == ("__debug__" : Str)) = false := by decide)
    (he : starEach (e :: es) X.env = (false, eval e X.env) :: starEach es X.env := by rfl) (hpl : (backTo pos (starEach es X.env)).any (·.1) = false := by rfl) : JE S X (.Call (.Name x p) (e :: es) [] pos) (pCB gc qs) := by
  obtain ⟨t, h1, h2⟩ := ha
  exact ⟨fun W => tCB r (t W), fun W h => pe_callB hc hg hm hv (h1 W h) hn hdb he hpl, sim_cb hr h2⟩
theorem je_callTy (hc : CallR X (.type T) r) (hr : CS X.K S r gc) (hg : Gl X x) (hm : X.mg x = none) (hv : bootBuiltins x = some (.type T)) (ha : JA S X (e :: es) qs) (hn : x ≠ "__name__" := by decide) (hdb : (x == ("__debug__" : Str)) = false := by decide)
    (he : starEach (e :: es) X.env = (false, eval e X.env) :: starEach es X.env := by rfl) (hpl : (backTo pos (starEach es X.env)).any (·.1) = false := by rfl) : JE S X (.Call (.Name x p) (e :: es) [] pos) (pCB gc qs) := by
  obtain ⟨t, h1, h2⟩ := ha
  exact ⟨fun W => tCB r (t W), fun W h => pe_callTy hc hg hm hv (h1 W h) hn hdb he hpl, sim_cb hr h2⟩
def gLen : GC := fun ds Q => match ds with
  | [.str x] => x.length ≤ sizeLine ∧ Q (.int x.length)
  | [.list xs] => Q (.int xs.length)
  | [.tuple xs] => Q (.int xs.length)
  | _ => False
theorem cs_len {K : PySem.W.Frag} : CS K S (fun xs H Q => ∃ x n, xs = [x] ∧ LenV K x H n ∧ Q (.int n) H) gLen := fun B N H σ ρ vs ds Q Q' R r q k => by
  cases r with
  | nil => exact q.elim
  | cons h t =>
    cases t with
    | cons _ _ => cases h <;> exact q.elim
    | nil =>
      cases h with
      | str z => exact ⟨_, z.length, rfl, ⟨q.1, rfl⟩, k N H _ _ R (Ex.refl _) (.int _) q.2⟩
      | lst h1 h2 => exact ⟨_, _, rfl, .inl ⟨_, .inl (.inl (R.sub _ _ h1)), rfl⟩, k N H _ _ R (Ex.refl _) (by rw [h2.length]; exact .int _) q⟩
      | tup h1 h2 => exact ⟨_, _, rfl, .inr ⟨_, ex_t R.sub h1, rfl⟩, k N H _ _ R (Ex.refl _) (by rw [h2.length]; exact .int _) q⟩
      | _ => exact q.elim
/-- one int -/
def gI1 (f : Int → PyData) : GC := fun ds Q => match ds with
  | [.int i] => Q (f i)
  | _ => False
theorem cs_abs {K : PySem.W.Frag} : CS K S (fun xs H Q => ∃ i, xs = [.int i] ∧ Q (.int (if i < 0 then -i else i)) H) (gI1 fun i => .int (if i < 0 then -i else i)) := fun B N H σ ρ vs ds Q Q' R r q k => by
  cases r with
  | nil => exact q.elim
  | cons h t =>
    cases t with
    | cons _ _ => cases h <;> exact q.elim
    | nil =>
      cases h with
      | int i => exact ⟨i, rfl, k N H _ _ R (Ex.refl _) (.int _) q⟩
      | _ => exact q.elim
def gInt : GC := fun ds Q => match ds with
  | [.int i] => Q (.int i)
  | [.bool k] => Q (.int (if k then 1 else 0))
  | _ => False
theorem cs_int {K : PySem.W.Frag} : CS K S (fun xs H Q => (∃ i, xs = [V.int i] ∧ Q (.int i) H) ∨ ∃ k, xs = [V.bl k] ∧ Q (.int (if k then 1 else 0)) H) gInt := fun B N H σ ρ vs ds Q Q' R r q k => by
  cases r with
  | nil => exact q.elim
  | cons h t =>
    cases t with
    | cons _ _ => cases h <;> exact q.elim
    | nil =>
      cases h with
      | int i => exact .inl ⟨i, rfl, k N H _ _ R (Ex.refl _) (.int _) q⟩
      | bl b => exact .inr ⟨b, rfl, k N H _ _ R (Ex.refl _) (.int _) q⟩
      | _ => exact q.elim
def gI2 (f : Int → Int → PyData) : GC := fun ds Q => match ds with
  | [.int i, .int j] => Q (f i j)
  | _ => False
theorem cs_I2 {K : PySem.W.Frag} {f : Int → Int → V} {g : Int → Int → PyData} (hf : ∀ i j M, Rp K M (f i j) (g i j)) : CS K S (fun xs H Q => ∃ i j, xs = [.int i, .int j] ∧ Q (f i j) H) (gI2 g) := fun B N H σ ρ vs ds Q Q' R r q k => by
  cases r with
  | nil => exact q.elim
  | cons h t =>
    cases t with
    | nil => cases h <;> exact q.elim
    | cons h' t =>
      cases t with
      | cons _ _ => cases h <;> first | exact q.elim | (cases h' <;> exact q.elim)
      | nil =>
        cases h with
        | int i =>
          cases h' with
          | int j => exact ⟨i, j, rfl, k N H _ _ R (Ex.refl _) (hf i j N) q⟩
          | _ => exact q.elim
        | _ => first | exact q.elim | (cases h' <;> exact q.elim)
/-- sum of a list of ints -/
def gSum : GC := fun ds Q => match ds with
  | [.list xs] => ∃ ns : List Int, xs = ns.map .int ∧ Q (.int ns.sum)
  | _ => False
theorem cs_sum {K : PySem.W.Frag} : CS K S (rSum K) gSum := fun B N H σ ρ vs ds Q Q' R r q k => by
  cases r with
  | nil => exact q.elim
  | cons h t =>
    cases t with
    | cons _ _ => cases h <;> exact q.elim
    | nil =>
      cases h with
      | lst h1 h2 =>
        obtain ⟨ns, e, q⟩ := q
        subst e
        refine ⟨_, ns, rfl, ?_, k N H _ _ R (Ex.refl _) (.int _) q⟩
        rw [← h2.of_ints]
        exact .inl (.inl (R.sub _ _ h1))
      | _ => exact q.elim
/-! ### isinstance of data -/
def tyD : PyData → String
  | .none => "NoneType"
  | .bool _ => "bool"
  | .int _ => "int"
  | .str _ => "str"
  | .list _ => "list"
  | .tuple _ => "tuple"
  | .dict _ => "dict"
def isT (n t : String) : Bool := t == n || (n == "int" && t == "bool")
def isD (n : String) (d : PyData) : Bool := isT n (tyD d)
def allT : List String := ["NoneType", "bool", "int", "str", "list", "tuple", "dict"]
theorem tyD_mem (d : PyData) : tyD d ∈ allT := by cases d <;> simp [tyD, allT]
theorem Rp.ty {K : PySem.W.Frag} {N H : Hp} (e : Ex N H) {v : V} {d : PyData} (r : Rp K N v d) : TyX K H v (.type (tyD d)) := by
  cases r with
  | non => exact .base .non
  | bl b => exact .base (.bl b)
  | int i => exact .base (.int i)
  | str x => exact .base (.str x)
  | lst h1 _ => exact .base (.lst (e _ _ h1))
  | tup h1 _ =>
    rcases h1 with (h | ⟨o, h⟩) | ⟨o, its, n, h, c, _⟩
    · exact .base (.tup (e _ _ h))
    · exact .fTuple (e _ _ h)
    · exact .kTuple h c
def pIsi (n : String) (p : PTE) : PTE := fun wp ρ Q => p wp ρ fun d ρ1 => Q (.bool (isD n d)) ρ1
/-- what isinstance needs to know of a built-in class -/
def TyKnown (n : String) : Prop := ∀ d : PyData, kitB (tyD d) n = some (isD n d)
theorem tk_int : TyKnown "int" := fun d => (by decide +kernel : ∀ t ∈ allT, kitB t "int" = some (isT "int" t)) _ (tyD_mem d)
theorem tk_bool : TyKnown "bool" := fun d => (by decide +kernel : ∀ t ∈ allT, kitB t "bool" = some (isT "bool" t)) _ (tyD_mem d)
theorem tk_str : TyKnown "str" := fun d => (by decide +kernel : ∀ t ∈ allT, kitB t "str" = some (isT "str" t)) _ (tyD_mem d)
theorem tk_list : TyKnown "list" := fun d => (by decide +kernel : ∀ t ∈ allT, kitB t "list" = some (isT "list" t)) _ (tyD_mem d)
theorem tk_tuple : TyKnown "tuple" := fun d => (by decide +kernel : ∀ t ∈ allT, kitB t "tuple" = some (isT "tuple" t)) _ (tyD_mem d)
theorem je_isi {n : String} {y : Str} {py : Pos} (tk : TyKnown n) (hg : Gl X "isinstance") (hm : X.mg "isinstance" = none) (hgy : Gl X y) (hmy : X.mg y = none) (hvy : bootBuiltins y = some (.type n)) (ha : JE S X a pa)
    (hn : y ≠ "__name__" := by decide) (hdb : (y == ("__debug__" : Str)) = false := by decide)
    (hs1 : starEach [a, .Name y py] X.env = (false, eval a X.env) :: starEach [.Name y py] X.env := by rfl) (hs2 : starEach [.Name y py] X.env = (false, eval (.Name y py) X.env) :: starEach [] X.env := by rfl) (hpl : (backTo pos (starEach [.Name y py] X.env)).any (·.1) = false := by rfl) :
    JE S X (.Call (.Name "isinstance" p) [a, .Name y py] [] pos) (pIsi n pa) := by
  obtain ⟨ta, a1, a2⟩ := ha
  refine ⟨fun W => tCB (rIsi X.K) (tCons (ta W) (tCons (tC (.ty n)) tNil)), fun W h => pe_callB call_isi hg hm PyProof.Rows.boot_isinstance (pa_cons (a1 W h) (pa_cons (pe_bltn hgy hmy hvy rfl hn hdb) pa_nil hs2) hs1) (by decide) (by decide) hs1 hpl, fun W wp B N H σ ρ Q Q' R hw q k => a2 W wp B N H σ ρ _ _ R hw q fun N1 H1 x dx ρ1 R1 e1 r1 q1 => ?_⟩
  exact ⟨x, .ty n, _, _, isD n dx, rfl, .ty n, r1.ty R1.sub, kit_ty (tk dx), k N1 H1 _ _ ρ1 R1 e1 (.bl _) q1⟩
end
end PD

set_option Elab.async false
set_option linter.all false
set_option maxRecDepth 100000
/-! Statements, loops, calls of own defs, told over data. -/
namespace PD
open PySem L2 GxR

structure PEn where
  nx : List Sl → Prop
  rt : Rt → Prop
  bk : List Sl → Prop := fun _ => False
  ct : List Sl → Prop := fun _ => False
  ex : PWh
abbrev PTS := PEn → List Sl → Prop
def RtOk (K : PySem.W.Frag) (S : Src) (B : Bs) (N H : Hp) (v : V) : Rt → Prop
  | .v d => Rp K N v d
  | .own ds => ∃ a vs, v = .ref a ∧ H a = some (.lst vs) ∧ RpAll K N vs ds ∧ N a = none ∧ B.H a = none
  | .src => ∃ a o, v = .ref a ∧ H a = some o ∧ S.ok N o ∧ N a = none ∧ B.H a = none
theorem ROk.rt {K : PySem.W.Frag} {S : Src} {B : Bs} {N H : Hp} {σ : St} {ρ : List Sl} {v : V} {r : Rt} (h : ROk K S B N H σ ρ v r) : RtOk K S B N H v r := by
  cases r with
  | v d => exact h
  | own ds => obtain ⟨a, vs, h1, h2, h3, h4, h5, _⟩ := h; exact ⟨a, vs, h1, h2, h3, h4, h5⟩
  | src => obtain ⟨a, vs, h1, h2, h3, h4, h5, _⟩ := h; exact ⟨a, vs, h1, h2, h3, h4, h5⟩
/-- what is wanted in the heap follows from what is wanted of data -/
structure Con (K : PySem.W.Frag) (S : Src) (B : Bs) (W : WX) (D : Ends) (P : PEn) : Prop where
  nx : ∀ N H σ ρ, Rel K S B N H σ ρ → P.nx ρ → D.nx σ H
  rt : ∀ N H v r, Ext S B N H → RtOk K S B N H v r → P.rt r → D.rt v H
  bk : ∀ N H σ ρ, Rel K S B N H σ ρ → P.bk ρ → D.bk σ H
  ct : ∀ N H σ ρ, Rel K S B N H σ ρ → P.ct ρ → D.ct σ H
  ex : ∀ c N H σ ρ, Rel K S B N H σ ρ → P.ex c ρ → W c none σ H
theorem Con.w {K : PySem.W.Frag} {S : Src} {B : Bs} {W : WX} {D : Ends} {P : PEn} (h : Con K S B W D P) {σ : St} : WOk K S B σ W P.ex := fun c N H ρ R q => h.ex c N H σ ρ R q
theorem RtOk.lower {K : PySem.W.Frag} {S : Src} {B : Bs} {N H L : Hp} {v : V} {r : Rt} (h : RtOk K S (B.at L) N H v r) : RtOk K S B N H v r := by
  cases r <;> exact h
theorem RtOk.raise {K : PySem.W.Frag} {S : Src} {B : Bs} {N H L : Hp} {v : V} {r : Rt} (h : RtOk K S B N H v r) : RtOk K S (B.at L) N H v r := by
  cases r <;> exact h
theorem Con.raise {K : PySem.W.Frag} {S : Src} {B : Bs} {W : WX} {D : Ends} {P : PEn} {L : Hp} (e : Ex B.L L) (h : Con K S B W D P) : Con K S (B.at L) W D P :=
  ⟨fun N H σ ρ R => h.nx N H σ ρ (R.lower e), fun N H v r x ok => h.rt N H v r (x.lower e) ok.lower, fun N H σ ρ R => h.bk N H σ ρ (R.lower e), fun N H σ ρ R => h.ct N H σ ρ (R.lower e), fun c N H σ ρ R => h.ex c N H σ ρ (R.lower e)⟩
def SimS (K : PySem.W.Frag) (S : Src) (ts : WX → TS) (p : PTS) : Prop := ∀ (W : WX) (D : Ends) (P : PEn) (B : Bs) (N H : Hp) (σ : St) (ρ : List Sl), Rel K S B N H σ ρ → Con K S B W D P → p P ρ → ts W D σ H
def Own (X : Cx) : Prop := PassesOwn (model X.prog X.w) X.A X.env X.xe
def JS (S : Src) (X : Cx) (st : Stmt) (p : PTS) : Prop := ∃ ts : WX → TS, (∀ W, L2N.Takes X W → Own X → PS X st (ts W)) ∧ SimS X.K S ts p
def JSs (S : Src) (X : Cx) (st : List Stmt) (p : PTS) : Prop := ∃ ts : WX → TS, (∀ W, L2N.Takes X W → Own X → PSs X st (ts W)) ∧ SimS X.K S ts p

section
variable {S : Src} {X : Cx} {e a b c : Expr} {es : List Expr} {pos : Pos} {pa pb : PTE} {pr : PTR} {st : Stmt} {rest body : List Stmt} {ps qs : PTS} {qa : PTT}
def qNx : PTS := fun P ρ => P.nx ρ
def qSeq (p q : PTS) : PTS := fun P ρ => p { P with nx := q P } ρ
theorem jss_nil : JSs S X [] qNx := ⟨fun _ => tNext, fun _ _ _ => pss_nil, fun W D P B N H σ ρ R C q => C.nx N H σ ρ R q⟩
theorem jss_cons (h1 : JS S X st ps) (h2 : JSs S X rest qs) : JSs S X (st :: rest) (qSeq ps qs) := by
  obtain ⟨t, a1, a2⟩ := h1
  obtain ⟨u, b1, b2⟩ := h2
  refine ⟨fun W => tSeq (t W) (u W), fun W k o => pss_cons (a1 W k o) (b1 W k o), fun W D P B N H σ ρ R C q => a2 W { D with nx := u W D } { P with nx := qs P } B N H σ ρ R ⟨fun N1 H1 σ1 ρ1 R1 q1 => b2 W D P B N1 H1 σ1 ρ1 R1 C q1, C.rt, C.bk, C.ct, C.ex⟩ q⟩
theorem jss_one (h1 : JS S X st ps) : JSs S X [st] ps := by
  obtain ⟨t, a1, a2⟩ := h1
  exact ⟨t, fun W k o => pss_one (a1 W k o), a2⟩
theorem js_pass : JS S X (.Pass pos) qNx := ⟨fun _ => tNext, fun _ _ _ => ps_pass, fun W D P B N H σ ρ R C q => C.nx N H σ ρ R q⟩
def qBk : PTS := fun P ρ => P.bk ρ
def qCt : PTS := fun P ρ => P.ct ρ
theorem js_break : JS S X (.Break pos) qBk := ⟨fun _ => tBreak, fun _ _ _ => ps_break, fun W D P B N H σ ρ R C q => C.bk N H σ ρ R q⟩
theorem js_continue : JS S X (.Continue pos) qCt := ⟨fun _ => tCont, fun _ _ _ => ps_continue, fun W D P B N H σ ρ R C q => C.ct N H σ ρ R q⟩
theorem js_doc {x : Str} {j : Nat} {pos' : Pos} : JS S X (.Expr (.Constant (.str x) j pos) pos') qNx := ⟨fun _ => tNext, fun _ _ _ => ps_doc, fun W D P B N H σ ρ R C q => C.nx N H σ ρ R q⟩
def qDrop (p : PTR) : PTS := fun P ρ => p P.ex ρ fun _ ρ1 => P.nx ρ1
theorem js_expr (h : JR S X e pr) (hs : swapsWith e none pos.line X.env = pure false := by rfl) : JS S X (.Expr e pos) (qDrop pr) := by
  obtain ⟨t, a1, a2⟩ := h
  exact ⟨fun W => tDrop (t W), fun W k _ => ps_expr (a1 W k) hs, fun W D P B N H σ ρ R C q => a2 W P.ex B N H σ ρ _ _ R C.w q fun N1 H1 v r ρ1 R1 _ _ q1 => C.nx N1 H1 σ ρ1 R1 q1⟩
def qRet (p : PTR) : PTS := fun P ρ => p P.ex ρ fun r _ => P.rt r
theorem js_ret (h : JR S X e pr) : JS S X (.Return (some e) pos) (qRet pr) := by
  obtain ⟨t, a1, a2⟩ := h
  exact ⟨fun W => tRet (t W), fun W k _ => ps_ret (a1 W k), fun W D P B N H σ ρ R C q => a2 W P.ex B N H σ ρ _ _ R C.w q fun N1 H1 v r ρ1 R1 _ ok q1 => C.rt N1 H1 v r R1.ext ok.rt q1⟩
theorem js_retE (h : JE S X e pa) : JS S X (.Return (some e) pos) (qRet (pER pa)) := js_ret (jr_of h)
def qRetN : PTS := fun P _ => P.rt (.v .none)
theorem js_retN : JS S X (.Return none pos) qRetN := ⟨fun _ => tRetN, fun _ _ _ => ps_retN, fun W D P B N H σ ρ R C q => C.rt N H .non (.v .none) R.ext .non q⟩
/-- return xs, xs a list of ours -/
def qRetO (i : Nat) : PTS := fun P ρ => match ρ[i]? with
  | some (.own ds) => P.rt (.own ds)
  | some .src => P.rt .src
  | some (.v d) => P.rt (.v d)
  | _ => False
theorem js_retO (i : Nat) {x : Str} {px : Pos} (hB : True := trivial) (hN : X.N[i]? = some x := by rfl) (hv : Vis X.env.scope x := by first | exact Or.inl rfl | exact Or.inr (Or.inl rfl) | exact Or.inr (Or.inr rfl)) (hd : (x == ("__debug__" : Str)) = false := by decide)
    (hcd : (x == ("__classdict__" : Str)) = false := by decide) : JS S X (.Return (some (.Name x px)) pos) (fun P ρ => qRetO i P ρ ∧ (ρ[i]? = some .src → False)) := by
  refine ⟨fun _ => tRet (tVar i), fun _ _ _ => ps_ret (pv i hN hv hd hcd), fun W D P B N H σ ρ R C q => ?_⟩
  obtain ⟨q, hns⟩ := q
  unfold qRetO at q
  split at q
  · rename_i ds h
    obtain ⟨x, ex, a, vs, rfl, h1, h2, h3, h4⟩ := R.ok i _ h
    exact ⟨.ref a, ex, C.rt N H _ (.own ds) R.ext ⟨a, vs, rfl, h1, h2, h3, h4⟩ q⟩
  · rename_i h
    exact (hns h).elim
  · rename_i d h
    obtain ⟨x, ex, v, rfl, r⟩ := R.ok i _ h
    exact ⟨v, ex, C.rt N H _ (.v d) R.ext r q⟩
  · exact q.elim
def qIf (t : PTT) (p q : PTS) : PTS := fun P ρ => t P.ex ρ fun k ρ1 => if k = true then p P ρ1 else q P ρ1
theorem js_if {els : List Stmt} (hc : JT S X c qa) (ha : JSs S X body ps) (hb : JSs S X els qs) : JS S X (.If c body els pos) (qIf qa ps qs) := by
  obtain ⟨tc, c1, c2⟩ := hc
  obtain ⟨ta, a1, a2⟩ := ha
  obtain ⟨tb, b1, b2⟩ := hb
  refine ⟨fun W => tIfS (tc W) (ta W) (tb W), fun W k o => ps_if (c1 W k) (a1 W k o) (b1 W k o), fun W D P B N H σ ρ R C q => c2 W P.ex B N H σ ρ _ _ R C.w q fun N1 H1 k ρ1 R1 _ q1 => ?_⟩
  cases k with
  | true => rw [if_pos rfl] at q1 ⊢; exact a2 W D P B N1 H1 σ ρ1 R1 C q1
  | false => rw [if_neg Bool.false_ne_true] at q1 ⊢; exact b2 W D P B N1 H1 σ ρ1 R1 C q1
/-! ### stores -/
def slOf : Rt → Sl
  | .v d => .v d
  | .own ds => .own ds
  | .src => .src
theorem Rel.put {K : PySem.W.Frag} {B : Bs} {N H : Hp} {σ : St} {ρ : List Sl} {i : Nat} {v : V} {r : Rt} (R : Rel K S B N H σ ρ) (ok : ROk K S B N H σ ρ v r) : Rel K S B N H (σ.set i (some v)) (ρ.set i (slOf r)) := by
  cases r with
  | v d => exact R.setV ok
  | own ds =>
    obtain ⟨a, vs, rfl, h1, h2, h3, h4, h5⟩ := ok
    refine R.set ⟨a, vs, rfl, h1, h2, h3, h4⟩ fun _ c hc j t _ ht hm => ?_
    cases hc
    exact h5 j t ht hm
  | src =>
    obtain ⟨a, o, rfl, h1, h2, h3, h4, h5⟩ := ok
    refine R.set ⟨a, o, rfl, h1, h2, h3, .inr h4⟩ fun _ c hc j t _ ht hm => ?_
    cases hc
    exact h5 j t ht hm
def qSet (i : Nat) (p : PTR) : PTS := fun P ρ => p P.ex ρ fun r ρ1 => P.nx (ρ1.set i (slOf r))
theorem js_set (i : Nat) {x : Str} {pos' : Pos} (hN : X.N.Nodup) (h : JR S X e pr) (hi : X.N[i]? = some x := by rfl) (hx : Loc X.env.scope x := by first | exact Or.inl rfl | exact Or.inr rfl) (hs : swapsWith e (some (.Name x pos')) pos.line X.env = pure false := by rfl)
    (hf : X.fn x = true ∨ X.env.scope.names.lookup x = some .local := by first | exact .inl rfl | exact .inr rfl | assumption) : JS S X (.Assign [.Name x pos'] e pos) (qSet i pr) := by
  obtain ⟨t, a1, a2⟩ := h
  exact ⟨fun W => tAsg (t W) (gName i), fun W k _ => ps_set hN hi hx (a1 W k) hs hf, fun W D P B N H σ ρ R C q => a2 W P.ex B N H σ ρ _ _ R C.w q fun N1 H1 v r ρ1 R1 _ ok q1 => C.nx N1 H1 _ _ (R1.put ok) q1⟩
theorem js_setE (i : Nat) {x : Str} {pos' : Pos} (hN : X.N.Nodup) (h : JE S X e pa) (hi : X.N[i]? = some x := by rfl) (hx : Loc X.env.scope x := by first | exact Or.inl rfl | exact Or.inr rfl) (hs : swapsWith e (some (.Name x pos')) pos.line X.env = pure false := by rfl)
    (hf : X.fn x = true ∨ X.env.scope.names.lookup x = some .local := by first | exact .inl rfl | exact .inr rfl | assumption) : JS S X (.Assign [.Name x pos'] e pos) (qSet i (pER pa)) := js_set i hN (jr_of h) hi hx hs hf
/-- x op= e -/
def qAug (i : Nat) (g : G2) (pb : PTE) : PTS := fun P ρ => match ρ[i]? with
  | some (.v dx) => pb P.ex ρ fun dy ρ1 => g dx dy fun d => P.nx (ρ1.set i (.v d))
  | _ => False
theorem js_aug (i : Nat) {x : Str} {pos' : Pos} {op : Operator} {r : R2} {g : G2} (hN : X.N.Nodup) (ho : OpR X (inplaceOp op) r) (hr : R2S X.K S r g) (hb : JE S X e pb) (hi : X.N[i]? = some x := by rfl) (hx : Loc X.env.scope x := by first | exact Or.inl rfl | exact Or.inr rfl)
    (hf : X.fn x = true ∨ X.env.scope.names.lookup x = some .local := by first | exact .inl rfl | exact .inr rfl | assumption) : JS S X (.AugAssign (.Name x pos') op e pos) (qAug i g pb) := by
  obtain ⟨t, b1, b2⟩ := hb
  refine ⟨fun W => tAug i (t W) r, fun W k _ => ps_aug hN hi hx (b1 W k) (fun pins s σ H x y v u Q I rx ry q => ho pins s σ H x y v u Q I rx ry q) hf, fun W D P B N H σ ρ R C q => ?_⟩
  unfold qAug at q
  split at q
  · rename_i dx h
    obtain ⟨x, ex, v, rfl, rx⟩ := R.ok i _ h
    refine ⟨v, ex, b2 W P.ex B N H σ ρ _ _ R C.w q fun N1 H1 y dy ρ1 R1 e1 ry q1 => hr B N1 H1 σ ρ1 v y dx dy _ _ R1 (rx.up e1) ry q1 fun N2 H2 z d R2 e2 rz q2 => C.nx N2 H2 _ _ (R2.setV rz) q2⟩
  · exact q.elim
theorem js_addI (i : Nat) {x : Str} {pos' : Pos} (hN : X.N.Nodup) (hb : JE S X e pb) (hi : X.N[i]? = some x := by rfl) (hx : Loc X.env.scope x := by first | exact Or.inl rfl | exact Or.inr rfl)
    (hf : X.fn x = true ∨ X.env.scope.names.lookup x = some .local := by first | exact .inl rfl | exact .inr rfl | assumption) : JS S X (.AugAssign (.Name x pos') .Add e pos) (qAug i (gI0 fun i j => .int (i + j)) pb) := js_aug i hN iop_add (s_I0 fun _ _ _ => .int _) hb hi hx hf
theorem js_subI (i : Nat) {x : Str} {pos' : Pos} (hN : X.N.Nodup) (hb : JE S X e pb) (hi : X.N[i]? = some x := by rfl) (hx : Loc X.env.scope x := by first | exact Or.inl rfl | exact Or.inr rfl)
    (hf : X.fn x = true ∨ X.env.scope.names.lookup x = some .local := by first | exact .inl rfl | exact .inr rfl | assumption) : JS S X (.AugAssign (.Name x pos') .Sub e pos) (qAug i (gI0 fun i j => .int (i - j)) pb) := js_aug i hN iop_sub (s_I0 fun _ _ _ => .int _) hb hi hx hf
/-! ### a list of ours is changed -/
def ownAt (ρ : List Sl) (i : Nat) : Option (List PyData) := match ρ[i]? with
  | some (.own ds) => some ds
  | some (.brw ds) => some ds
  | _ => none
def setOwn (ρ : List Sl) (i : Nat) (ds : List PyData) : List Sl := match ρ[i]? with
  | some (.own _) => ρ.set i (.own ds)
  | some (.brw _) => ρ.set i (.brw ds)
  | _ => ρ
theorem Rel.ownAt {K : PySem.W.Frag} {B : Bs} {N H : Hp} {σ : St} {ρ : List Sl} {i : Nat} {ds : List PyData} (R : Rel K S B N H σ ρ) (h : ownAt ρ i = some ds) : ∃ a vs, σ[i]? = some (some (.ref a)) ∧ H a = some (.lst vs) ∧ RpAll K N vs ds ∧
    ∀ vs' ds', RpAll K N vs' ds' → Rel K S B N (upd H a (.lst vs')) σ (setOwn ρ i ds') := by
  have key : ∀ (s : Sl) (s' : List PyData → Sl), ρ[i]? = some s → s.mut = true → (∀ ds', (s' ds').mut = true) → ∀ a vs, σ[i]? = some (some (.ref a)) → H a = some (.lst vs) → N a = none → (¬ B.z a) → (B.y a ∨ B.H a = none) →
      (∀ vs' ds', RpAll K N vs' ds' → SlOk K S B N (upd H a (.lst vs')) (s' ds') (some (.ref a))) → ∀ vs' ds', RpAll K N vs' ds' → Rel K S B N (upd H a (.lst vs')) σ (ρ.set i (s' ds')) := by
    intro s s' hs hm hm' a vs ex h1 h3 hz hy ok vs' ds' hr
    have hil : i < ρ.length := (List.getElem?_eq_some_iff.mp hs).1
    refine ⟨R.b, ⟨R.ext.ex, fun b o q => ?_, R.ext.fr, fun b o q nz ny nt => ?_, fun b n => ?_, fun b q => ?_, R.ext.fl, fun b q => ?_⟩, by rw [List.length_set]; exact R.len, fun j t ht => ?_, fun j k t u c ne g1 g2 m1 m2 e1 e2 => ?_⟩
    · rw [upd_ne (fun z => by rw [z, h3] at q; cases q)]
      exact R.sub b o q
    · have hb : b ≠ a := fun z => by
        subst z
        rcases hy with hy | hy
        · exact ny hy
        · rw [hy] at q; cases q
      rw [upd_ne hb]
      exact R.ext.keep b o q nz ny nt
    · by_cases hb : b = a
      · rw [hb, upd_same]; exact nofun
      · rw [upd_ne hb]; exact R.ext.dom b n
    · obtain ⟨o, g1, g2⟩ := R.ext.src b q
      have hb : b ≠ a := fun z => by
        subst z
        exact hz q
      exact ⟨o, by rw [upd_ne hb]; exact g1, g2⟩
    · obtain ⟨ps, g1, g2⟩ := R.ext.tab b q
      exact ⟨ps, by rw [upd_ne (fun z => by rw [z, h1] at g1; cases g1)]; exact g1, g2⟩
    · rcases get_set_cases ht with ⟨rfl, rfl, _⟩ | ⟨ne, ht⟩
      · exact ⟨_, ex, ok _ _ hr⟩
      · obtain ⟨y, ey, q⟩ := R.ok j t ht
        refine ⟨y, ey, ?_⟩
        have na : t.mut = true → ∀ c, y = some (.ref c) → c ≠ a := fun m c hc z => by
          subst hc
          subst z
          exact R.sep j i t _ _ ne ht hs m hm ey ex
        cases t with
        | un => trivial
        | v d => exact q
        | own es =>
          obtain ⟨c, ws, hy, g1, g2⟩ := q
          exact ⟨c, ws, hy, by rw [upd_ne (na rfl c hy)]; exact g1, g2⟩
        | brw es =>
          obtain ⟨c, ws, hy, g1, g2⟩ := q
          exact ⟨c, ws, hy, by rw [upd_ne (na rfl c hy)]; exact g1, g2⟩
        | src =>
          obtain ⟨c, o, hy, g1, g2⟩ := q
          exact ⟨c, o, hy, by rw [upd_ne (na rfl c hy)]; exact g1, g2⟩
        | exc c v => exact q
        | fz ds => exact q
    · rcases get_set_cases g1 with ⟨q1, q2, _⟩ | ⟨n1, k1⟩
      · rcases get_set_cases g2 with ⟨q3, q4, _⟩ | ⟨n2, k2⟩
        · exact ne (q1.trans q3.symm)
        · exact R.sep j k s u c ne (by rw [q1]; exact hs) k2 hm m2 e1 e2
      · rcases get_set_cases g2 with ⟨q3, q4, _⟩ | ⟨n2, k2⟩
        · exact R.sep j k t s c ne k1 (by rw [q3]; exact hs) m1 hm e1 e2
        · exact R.sep j k t u c ne k1 k2 m1 m2 e1 e2
  unfold PD.ownAt at h
  split at h
  · rename_i es hh
    cases h
    obtain ⟨x, ex, a, vs, rfl, h1, h2, h3, h4⟩ := R.ok i _ hh
    refine ⟨a, vs, ex, h1, h2, fun vs' ds' hr => ?_⟩
    have e : setOwn ρ i ds' = ρ.set i (.own ds') := by unfold setOwn; rw [hh]
    rw [e]
    exact key _ Sl.own hh rfl (fun _ => rfl) a vs ex h1 h3 (fun z => by obtain ⟨o, q, _⟩ := R.b.zs a z; rw [h4] at q; cases q) (.inr h4) (fun vs'' ds'' r => ⟨a, vs'', rfl, upd_same, r, h3, h4⟩) vs' ds' hr
  · rename_i es hh
    cases h
    obtain ⟨x, ex, a, vs, rfl, h1, h2, h3, h4⟩ := R.ok i _ hh
    refine ⟨a, vs, ex, h1, h2, fun vs' ds' hr => ?_⟩
    have e : setOwn ρ i ds' = ρ.set i (.brw ds') := by unfold setOwn; rw [hh]
    rw [e]
    exact key _ Sl.brw hh rfl (fun _ => rfl) a vs ex h1 h3 (fun z => R.b.zy a z h4) (.inl h4) (fun vs'' ds'' r => ⟨a, vs'', rfl, upd_same, r, h3, h4⟩) vs' ds' hr
  · cases h
/-- a method of a list of ours: what it holds, the arguments; what comes back, what it holds then -/
abbrev GM := List PyData → List PyData → (PyData → List PyData → Prop) → Prop
def MS (K : PySem.W.Frag) (r : V → List V → Hp → VK → Prop) (g : GM) : Prop := ∀ (N H : Hp) (a : Addr) (vs ws : List V) (ds es : List PyData) (Q : VK) (Q' : PyData → List PyData → Prop), Ex N H → H a = some (.lst vs) → RpAll K N vs ds → RpAll K N ws es → g ds es Q' →
  (∀ v d vs' ds', Rp K N v d → RpAll K N vs' ds' → Q' d ds' → Q v (upd H a (.lst vs'))) → r (.ref a) ws H Q
def pMt (i : Nat) (g : GM) (q : PTA) : PTE := fun wp ρ Q => (∃ ds, ownAt ρ i = some ds) ∧ q wp ρ fun es ρ1 => match ownAt ρ1 i with
  | some ds => g ds es fun d ds' => Q d (setOwn ρ1 i ds')
  | none => False
variable {x name : Str} {px ap cp : Pos} {T id : String} {r : V → List V → Hp → VK → Prop} {g : GM} {qs' : PTA}
theorem sim_mt {K : PySem.W.Frag} {i : Nat} {t : WX → TA} (hr : MS K r g) (h : SimA K S t qs') : SimE K S (fun W => tBM K "list" r (tVar i) (t W)) (pMt i g qs') := fun W wp B N H σ ρ Q Q' R hw q k => by
  obtain ⟨⟨ds0, h0⟩, q⟩ := q
  obtain ⟨a, vs0, ex, h1, _⟩ := R.ownAt h0
  refine ⟨.ref a, ex, .inl ⟨rfl, _, .inl (.inl h1)⟩, h W wp B N H σ ρ _ _ R hw q fun N1 H1 ws es ρ1 R1 e1 r1 q1 => ?_⟩
  cases h2 : PD.ownAt ρ1 i with
  | none => rw [h2] at q1; exact q1.elim
  | some ds =>
    rw [h2] at q1
    obtain ⟨a', vs, ex', g1, g2, g3⟩ := R1.ownAt h2
    rw [ex] at ex'
    cases ex'
    exact hr N1 H1 a vs ws ds es _ _ R1.sub g1 g2 r1 q1 fun v d vs' ds' rv rvs q2 => k N1 _ v d _ (g3 vs' ds' rvs) e1 rv q2
theorem je_mt (i : Nat) (pa : PlainAttrs "list") (slot : Slot "list" name id) (hty : typeOf (.builtin id) = pure (.type "method_descriptor")) (hm : MtR X id r) (hr : MS X.K r g) (ha : JA S X (e :: es) qs')
    (hN : X.N[i]? = some x := by rfl) (hv : Vis X.env.scope x := by first | exact Or.inl rfl | exact Or.inr (Or.inl rfl) | exact Or.inr (Or.inr rfl)) (hd : (x == ("__debug__" : Str)) = false := by decide)
    (hcd : (x == ("__classdict__" : Str)) = false := by decide) (hbase : attributeBase (.Name x px) name X.env (eval (.Name x px) X.env) = eval (.Name x px) X.env := by rfl)
    (hfew : ((backTo cp (starEach (e :: es) X.env)).all (fun x => !x.1) && (backToKw cp (keywordEach [] X.env)).all (fun x => x.1.isSome)
      && decide ((e :: es).length + ([] : List Keyword).length + (if ([] : List Keyword).isEmpty then 0 else 1) < 30)) = true := by rfl)
    (hline : (ap.endLine == cp.line) = true := by rfl) (hs : starEach (e :: es) X.env = (false, eval e X.env) :: starEach es X.env := by rfl) (hplain : (backTo cp (starEach es X.env)).any (·.1) = false := by rfl) :
    JE S X (.Call (.Attribute (.Name x px) name ap) (e :: es) [] cp) (pMt i g qs') := by
  obtain ⟨t, h1, h2⟩ := ha
  exact ⟨fun W => tBM X.K "list" r (tVar i) (t W), fun W k => pe_bm pa slot hty hm (pv i hN hv hd hcd) (h1 W k) hbase hfew hline hs hplain, sim_mt hr h2⟩
theorem je_mt0 (i : Nat) (pa : PlainAttrs "list") (slot : Slot "list" name id) (hty : typeOf (.builtin id) = pure (.type "method_descriptor")) (hm : MtR X id r) (hr : MS X.K r g)
    (hN : X.N[i]? = some x := by rfl) (hv : Vis X.env.scope x := by first | exact Or.inl rfl | exact Or.inr (Or.inl rfl) | exact Or.inr (Or.inr rfl)) (hd : (x == ("__debug__" : Str)) = false := by decide)
    (hcd : (x == ("__classdict__" : Str)) = false := by decide) (hbase : attributeBase (.Name x px) name X.env (eval (.Name x px) X.env) = eval (.Name x px) X.env := by rfl) (hline : (ap.endLine == cp.line) = true := by rfl) :
    JE S X (.Call (.Attribute (.Name x px) name ap) [] [] cp) (pMt i g pNil) := by
  refine ⟨fun W => tBM0 X.K "list" r (tVar i), fun W k => pe_bm0 pa slot hty hm (pv i hN hv hd hcd) hbase hline, fun W wp B N H σ ρ Q Q' R hw q k => ?_⟩
  have z := sim_mt (S := S) (t := fun _ => tNil) (i := i) hr (qs' := pNil) (fun W wp B N H σ ρ Q Q' R hw q k => k N H [] [] ρ R (Ex.refl _) .nil q) W wp B N H σ ρ Q Q' R hw q k
  exact z
def gAppend : GM := fun ds es Q => match es with
  | [d] => ds.length < sizeLine ∧ Q .none (ds ++ [d])
  | _ => False
theorem ms_append {K : PySem.W.Frag} : MS K rAppend gAppend := fun N H a vs ws ds es Q Q' e h1 h2 h3 q k => by
  cases h3 with
  | nil => exact q.elim
  | cons h t =>
    cases t with
    | cons _ _ => exact q.elim
    | nil => exact ⟨a, vs, _, rfl, rfl, h1, by rw [h2.length]; exact q.1, k _ _ _ _ .non (h2.append (.cons h .nil)) q.2⟩
def gPop : GM := fun ds es Q => match es with
  | [] => ∃ d, ds[ds.length - 1]? = some d ∧ Q d ds.dropLast
  | _ => False
theorem ms_pop {K : PySem.W.Frag} : MS K rPop gPop := fun N H a vs ws ds es Q Q' e h1 h2 h3 q k => by
  cases h3 with
  | cons _ _ => exact q.elim
  | nil =>
    obtain ⟨d, g1, q⟩ := q
    obtain ⟨v, g2, g3⟩ := h2.get g1
    exact ⟨a, vs, v, rfl, rfl, h1, by rw [h2.length]; exact g2, k _ _ _ _ g3 h2.dropLast q⟩
end
end PD

set_option Elab.async false
set_option linter.all false
set_option maxRecDepth 100000
/-! Calls of own defs, their promises; loops; exceptions: told over data. -/
namespace PD
open PySem L2 GxR

/-- what a def does: the arguments; what is wanted of what comes back, of the class of an exception -/
abbrev PSpec := List Sl → (Rt → Prop) → (Value → Prop) → Prop
def spOf (K : PySem.W.Frag) (S : Src) (P : PSpec) : Sp := fun vs H Q E => ∃ (B : Bs) (as : List Sl) (Qr : Rt → Prop) (Qe : Value → Prop), B.H = H ∧ Rel K S B B.M H (vs.map some) as ∧ P as Qr Qe ∧
  (∀ N H' v r, Ext S B N H' → RtOk K S B N H' v r → Qr r → Q v H') ∧ (∀ c N H', Ext S B N H' → Qe c → E c none H')
def atMostOne : List Sl → Bool
  | [] => true
  | s :: r => if s.mut then r.all (fun t => !t.mut) else atMostOne r
theorem atMostOne_ok : ∀ {l : List Sl}, atMostOne l = true → ∀ {i j : Nat} {s t : Sl}, l[i]? = some s → l[j]? = some t → s.mut = true → t.mut = true → i = j
  | [], _, _, _, _, _, h, _, _, _ => by simp at h
  | x :: r, hl, i, j, s, t, h1, h2, m1, m2 => by
    unfold atMostOne at hl
    cases hx : x.mut with
    | true =>
      rw [hx, if_pos rfl, List.all_eq_true] at hl
      cases i with
      | zero =>
        cases j with
        | zero => rfl
        | succ j =>
          have := hl t (List.mem_of_getElem? (by simpa using h2))
          rw [m2] at this
          cases this
      | succ i =>
        have := hl s (List.mem_of_getElem? (by simpa using h1))
        rw [m1] at this
        cases this
    | false =>
      rw [hx, if_neg Bool.false_ne_true] at hl
      cases i with
      | zero =>
        simp at h1
        subst h1
        rw [hx] at m1
        cases m1
      | succ i =>
        cases j with
        | zero =>
          simp at h2
          subst h2
          rw [hx] at m2
          cases m2
        | succ j => rw [atMostOne_ok hl (i := i) (j := j) (by simpa using h1) (by simpa using h2) m1 m2]

/-- the arguments of a call: data, and sources that stand in slots of ours -/
def CArgs (K : PySem.W.Frag) (N : Hp) (σ : St) (ρ : List Sl) : List V → List Sl → Prop
  | [], [] => True
  | v :: vs, s :: as => (match s with
    | .v d => Rp K N v d
    | .src => ∃ j : Nat, ρ[j]? = some .src ∧ σ[j]? = some (some v)
    | .fz ds => ∃ a ws, v = .ref a ∧ SqL K N a ws ∧ RpAll K N ws ds
    | .exc a _ => v = .ref a
    | _ => False) ∧ CArgs K N σ ρ vs as
  | _, _ => False
theorem CArgs.get {K : PySem.W.Frag} {N : Hp} {σ : St} {ρ : List Sl} : ∀ {vs : List V} {as : List Sl} {i : Nat} {s : Sl}, CArgs K N σ ρ vs as → as[i]? = some s → ∃ v, vs[i]? = some v ∧ (match s with
    | .v d => Rp K N v d
    | .src => ∃ j : Nat, ρ[j]? = some .src ∧ σ[j]? = some (some v)
    | .fz ds => ∃ a ws, v = .ref a ∧ SqL K N a ws ∧ RpAll K N ws ds
    | .exc a _ => v = .ref a
    | _ => False)
  | [], [], _, _, _, e => by simp at e
  | v :: vs, s :: as, 0, t, h, e => by
    simp at e
    subst e
    exact ⟨v, rfl, h.1⟩
  | v :: vs, s :: as, i + 1, t, h, e => by
    obtain ⟨u, h1, h2⟩ := CArgs.get (i := i) (s := t) h.2 (by simpa using e)
    exact ⟨u, by simpa using h1, h2⟩
  | [], _ :: _, _, _, h, _ => h.elim
  | _ :: _, [], _, _, h, _ => h.elim
theorem CArgs.length {K : PySem.W.Frag} {N : Hp} {σ : St} {ρ : List Sl} : ∀ {vs : List V} {as : List Sl}, CArgs K N σ ρ vs as → vs.length = as.length
  | [], [], _ => rfl
  | v :: vs, s :: as, h => by rw [List.length_cons, List.length_cons, CArgs.length h.2]
  | [], _ :: _, h => h.elim
  | _ :: _, [], h => h.elim
abbrev PTC := PWh → List Sl → (List Sl → List Sl → Prop) → Prop
def SimC (K : PySem.W.Frag) (S : Src) (te : WX → TA) (p : PTC) : Prop := ∀ (W : WX) (wp : PWh) (B : Bs) (N H : Hp) (σ : St) (ρ : List Sl) (Q : List V → Hp → Prop) (Q' : List Sl → List Sl → Prop), Rel K S B N H σ ρ → WOk K S B σ W wp → p wp ρ Q' →
  (∀ N' H' vs as ρ', Rel K S B N' H' σ ρ' → Ex N N' → CArgs K N' σ ρ' vs as → Q' as ρ' → Q vs H') → te W σ H Q
def JC (S : Src) (X : Cx) (es : List Expr) (p : PTC) : Prop := ∃ te : WX → TA, (∀ W, L2N.Takes X W → PA X es (te W)) ∧ SimC X.K S te p
def pcNil : PTC := fun _ ρ Q => Q [] ρ
def pcCons (p : PTE) (q : PTC) : PTC := fun wp ρ Q => p wp ρ fun d ρ1 => q wp ρ1 fun as ρ2 => Q (.v d :: as) ρ2
def pcSrc (i : Nat) (q : PTC) : PTC := fun wp ρ Q => ρ[i]? = some .src ∧ q wp ρ fun as ρ1 => ρ1[i]? = some .src ∧ Q (.src :: as) ρ1
section
variable {S : Src} {X : Cx} {e a b c : Expr} {es : List Expr} {pos : Pos} {pa pb : PTE} {pr : PTR} {pcs : PTC}
theorem jc_nil : JC S X [] pcNil := ⟨fun _ => tNil, fun _ _ => pa_nil, fun W wp B N H σ ρ Q Q' R hw q k => k N H [] [] ρ R (Ex.refl _) trivial q⟩
theorem jc_cons (ha : JE S X e pa) (hr : JC S X es pcs) (hs : starEach (e :: es) X.env = (false, eval e X.env) :: starEach es X.env := by rfl) : JC S X (e :: es) (pcCons pa pcs) := by
  obtain ⟨ta, a1, a2⟩ := ha
  obtain ⟨tb, b1, b2⟩ := hr
  exact ⟨fun W => tCons (ta W) (tb W), fun W h => pa_cons (a1 W h) (b1 W h) hs, fun W wp B N H σ ρ Q Q' R hw q k => a2 W wp B N H σ ρ _ _ R hw q fun N1 H1 x dx ρ1 R1 e1 r1 q1 => b2 W wp B N1 H1 σ ρ1 _ _ R1 hw q1 fun N2 H2 vs ds ρ2 R2 e2 r2 q2 =>
    k N2 H2 (x :: vs) (.v dx :: ds) ρ2 R2 (e1.trans e2) ⟨r1.up e2, r2⟩ q2⟩
theorem jc_src (i : Nat) {x : Str} {px : Pos} (hr : JC S X es pcs) (hN : X.N[i]? = some x := by rfl) (hv : Vis X.env.scope x := by first | exact Or.inl rfl | exact Or.inr (Or.inl rfl) | exact Or.inr (Or.inr rfl)) (hd : (x == ("__debug__" : Str)) = false := by decide)
    (hcd : (x == ("__classdict__" : Str)) = false := by decide) (hs : starEach (.Name x px :: es) X.env = (false, eval (.Name x px) X.env) :: starEach es X.env := by rfl) : JC S X (.Name x px :: es) (pcSrc i pcs) := by
  obtain ⟨tb, b1, b2⟩ := hr
  refine ⟨fun W => tCons (tVar i) (tb W), fun W h => pa_cons (pv i hN hv hd hcd) (b1 W h) hs, fun W wp B N H σ ρ Q Q' R hw q k => ?_⟩
  obtain ⟨h, q⟩ := q
  obtain ⟨x, ex, a, o, rfl, h1, _⟩ := R.ok i _ h
  exact ⟨.ref a, ex, b2 W wp B N H σ ρ _ _ R hw q fun N2 H2 vs ds ρ2 R2 e2 r2 q2 => k N2 H2 (.ref a :: vs) (.src :: ds) ρ2 R2 e2 ⟨⟨i, q2.1, ex⟩, r2⟩ q2.2⟩

/-- a list that stays as it is for good -/
def pcFz (i : Nat) (q : PTC) : PTC := fun wp ρ Q => match ρ[i]? with
  | some (.fz ds) => q wp ρ fun as ρ1 => Q (.fz ds :: as) ρ1
  | _ => False
theorem jc_fz (i : Nat) {x : Str} {px : Pos} (hr : JC S X es pcs) (hN : X.N[i]? = some x := by rfl) (hv : Vis X.env.scope x := by first | exact Or.inl rfl | exact Or.inr (Or.inl rfl) | exact Or.inr (Or.inr rfl)) (hd : (x == ("__debug__" : Str)) = false := by decide)
    (hcd : (x == ("__classdict__" : Str)) = false := by decide) (hs : starEach (.Name x px :: es) X.env = (false, eval (.Name x px) X.env) :: starEach es X.env := by rfl) : JC S X (.Name x px :: es) (pcFz i pcs) := by
  obtain ⟨tb, b1, b2⟩ := hr
  refine ⟨fun W => tCons (tVar i) (tb W), fun W h => pa_cons (pv i hN hv hd hcd) (b1 W h) hs, fun W wp B N H σ ρ Q Q' R hw q k => ?_⟩
  unfold pcFz at q
  split at q
  · rename_i ds h
    obtain ⟨x, ex, a, ws, rfl, h1, h2⟩ := R.ok i _ h
    exact ⟨.ref a, ex, b2 W wp B N H σ ρ _ _ R hw q fun N2 H2 vs as ρ2 R2 e2 r2 q2 => k N2 H2 (.ref a :: vs) (.fz ds :: as) ρ2 R2 e2 ⟨⟨a, ws, rfl, ex_l e2 h1, h2.up e2⟩, r2⟩ q2⟩
  · exact q.elim

/-- the exception that a suite holds -/
def pcExc (i : Nat) (q : PTC) : PTC := fun wp ρ Q => match ρ[i]? with
  | some (.exc a c) => q wp ρ fun as ρ1 => Q (.exc a c :: as) ρ1
  | _ => False
theorem jc_exc (i : Nat) {x : Str} {px : Pos} (hr : JC S X es pcs) (hN : X.N[i]? = some x := by rfl) (hv : Vis X.env.scope x := by first | exact Or.inl rfl | exact Or.inr (Or.inl rfl) | exact Or.inr (Or.inr rfl)) (hd : (x == ("__debug__" : Str)) = false := by decide)
    (hcd : (x == ("__classdict__" : Str)) = false := by decide) (hs : starEach (.Name x px :: es) X.env = (false, eval (.Name x px) X.env) :: starEach es X.env := by rfl) : JC S X (.Name x px :: es) (pcExc i pcs) := by
  obtain ⟨tb, b1, b2⟩ := hr
  refine ⟨fun W => tCons (tVar i) (tb W), fun W h => pa_cons (pv i hN hv hd hcd) (b1 W h) hs, fun W wp B N H σ ρ Q Q' R hw q k => ?_⟩
  unfold pcExc at q
  split at q
  · rename_i a c h
    obtain ⟨x, ex, hx⟩ := R.ok i _ h
    have hx : x = some (.ref a) := hx
    subst hx
    exact ⟨.ref a, ex, b2 W wp B N H σ ρ _ _ R hw q fun N2 H2 vs as ρ2 R2 e2 r2 q2 => k N2 H2 (.ref a :: vs) (.exc a c :: as) ρ2 R2 e2 ⟨rfl, r2⟩ q2⟩
  · exact q.elim

/-- where a callee begins -/
def calleeB (N H : Hp) (vs : List V) (as : List Sl) : Bs := ⟨fun b => ∃ i : Nat, as[i]? = some .src ∧ vs[i]? = some (.ref b), fun _ => False, N, H, N⟩
theorem Rel.callee {K : PySem.W.Frag} {B : Bs} {N H : Hp} {σ : St} {ρ : List Sl} {vs : List V} {as : List Sl} (R : Rel K S B N H σ ρ) (h : CArgs K N σ ρ vs as) (one : atMostOne as = true) :
    Rel K S (calleeB N H vs as) N H (vs.map some) as ∧ ∀ b, (calleeB N H vs as).z b → ∃ j : Nat, ρ[j]? = some .src ∧ σ[j]? = some (some (.ref b)) := by
  have src : ∀ b, (calleeB N H vs as).z b → ∃ j : Nat, ρ[j]? = some .src ∧ σ[j]? = some (some (.ref b)) := fun b ⟨i, h1, h2⟩ => by
    obtain ⟨v, e, j, g1, g2⟩ := h.get h1
    rw [h2] at e
    cases e
    exact ⟨j, g1, g2⟩
  have at_ : ∀ b, (calleeB N H vs as).z b → ∃ o, H b = some o ∧ S.ok N o ∧ N b = none := fun b hb => by
    obtain ⟨j, g1, g2⟩ := src b hb
    obtain ⟨x, ex, a, o, e, h1, h2, h3, _⟩ := R.ok j _ g1
    rw [g2] at ex
    cases ex
    cases e
    exact ⟨o, h1, h2, h3⟩
  have ok : (calleeB N H vs as).Ok S := ⟨R.sub, fun b hb => by obtain ⟨o, _, _, h3⟩ := at_ b hb; exact h3, fun _ z => z.elim, fun _ z => z.elim, fun b hb => by obtain ⟨o, h1, h2, _⟩ := at_ b hb; exact ⟨o, h1, h2⟩, fun _ _ z => z, fun b hb => R.tN hb, R.ext.tab⟩
  refine ⟨⟨ok, Ext.refl ok (Ex.refl _), by rw [List.length_map]; exact h.length, fun i s hs => ?_, fun i j s t a ne h1 h2 m1 m2 e1 e2 => ne (atMostOne_ok one h1 h2 m1 m2)⟩, src⟩
  obtain ⟨v, e, q⟩ := h.get hs
  refine ⟨some v, by rw [List.getElem?_map, e]; rfl, ?_⟩
  cases s with
  | v d => exact ⟨v, rfl, q⟩
  | src =>
    obtain ⟨j, g1, g2⟩ := q
    obtain ⟨x, ex, a, o, e', h1, h2, h3, _⟩ := R.ok j _ g1
    rw [g2] at ex
    cases ex
    cases e'
    exact ⟨a, o, rfl, h1, h2, h3, .inl ⟨i, hs, e⟩⟩
  | un => exact q.elim
  | own _ => exact q.elim
  | brw _ => exact q.elim
  | exc a _ => exact congrArg some q
  | fz ds => obtain ⟨a, ws, e', h1, h2⟩ := q; exact ⟨a, ws, by rw [e'], h1, h2⟩
/-- behind it -/
theorem Rel.after {K : PySem.W.Frag} {B B' : Bs} {N H N2 H2 : Hp} {σ : St} {ρ : List Sl} (R : Rel K S B N H σ ρ) (hM : B'.M = N) (hH : B'.H = H) (hz : ∀ b, B'.z b → ∃ j : Nat, ρ[j]? = some .src ∧ σ[j]? = some (some (.ref b))) (hy : ∀ b, ¬ B'.y b)
    (x : Ext S B' N2 H2) : Rel K S B N2 H2 σ ρ := by
  obtain ⟨z', y', M', H', L'⟩ := B'
  cases hM
  cases hH
  have zsrc : ∀ b, z' b → B.z b ∨ B.H b = none := fun b hb => by
    obtain ⟨j, g1, g2⟩ := hz b hb
    obtain ⟨x, ex, a, o, e, _, _, _, h4⟩ := R.ok j _ g1
    rw [g2] at ex
    cases ex
    cases e
    exact h4
  refine ⟨R.b, Ext.trans R.b R.ext zsrc (fun b h => (hy b h).elim) x, R.len, fun j s hs => ?_, R.sep⟩
  obtain ⟨y, ey, q⟩ := R.ok j s hs
  refine ⟨y, ey, ?_⟩
  have nz : s.mut = true → (∀ t, s = t → t ≠ .src) → ∀ a, y = some (.ref a) → ¬ z' a := fun m ns a hy' hz' => by
    subst hy'
    obtain ⟨k, g1, g2⟩ := hz a hz'
    by_cases ejk : j = k
    · subst ejk
      rw [hs] at g1
      exact ns s rfl (Option.some.inj g1)
    · exact R.sep j k s .src a ejk hs g1 m rfl ey g2
  have ne : ∀ {a : Addr} {o : HO}, H' a = some o → H' a ≠ none := fun h => by rw [h]; exact nofun
  cases s with
  | un => trivial
  | v d => obtain ⟨v, e, r⟩ := q; exact ⟨v, e, r.up x.ex⟩
  | own ds =>
    obtain ⟨a, vs, e, h1, h2, h3, h4⟩ := q
    exact ⟨a, vs, e, x.keep a _ h1 (nz rfl (fun t ht z => by rw [← ht] at z; cases z) a e) (hy a) (fun ht => tab_not (R.ext.tab a ht) h1 (fun ps z => by cases z)), h2.up x.ex, x.fr a h3 (ne h1), h4⟩
  | brw ds =>
    obtain ⟨a, vs, e, h1, h2, h3, h4⟩ := q
    exact ⟨a, vs, e, x.keep a _ h1 (nz rfl (fun t ht z => by rw [← ht] at z; cases z) a e) (hy a) (fun ht => tab_not (R.ext.tab a ht) h1 (fun ps z => by cases z)), h2.up x.ex, x.fr a h3 (ne h1), h4⟩
  | src =>
    obtain ⟨a, o, e, h1, h2, h3, h4⟩ := q
    by_cases hza : z' a
    · obtain ⟨o', g1, g2⟩ := x.src a hza
      exact ⟨a, o', e, g1, g2, x.fr a h3 (ne h1), h4⟩
    · exact ⟨a, o, e, x.keep a o h1 hza (hy a) (fun ht => tab_nots (R.ext.tab a ht) h1 h2), S.mono _ _ _ x.ex h2, x.fr a h3 (ne h1), h4⟩
  | exc a c => exact q
  | fz ds => obtain ⟨a, vs, e, h1, h2⟩ := q; exact ⟨a, vs, e, ex_l x.ex h1, h2.up x.ex⟩
/-- f(..) -/
def pCall (P : PSpec) (q : PTC) : PTR := fun wp ρ Q => q wp ρ fun as ρ1 => atMostOne as = true ∧ P as (fun r => Q r ρ1) fun c => wp c ρ1
variable {k : Nat} {f : Addr} {fd : FuncData} {ps : List Str} {P : PSpec} {x : Str} {p : Pos}
theorem jr_call (F : FnOk X.prog X.w X.K X.mg X.base (L2N.CX X.prog X.w) k f fd ps (spOf X.K S P)) (hr : Room k X.A) (hg : Gl X x) (hm : X.mg x = some (.ref f)) (hk : PySem.W.keepIn X.K (.ref f) = true) (hb : Binds X.K fd ps [])
    (ha : JC S X (e :: es) pcs) (hdb : (x == ("__debug__" : Str)) = false := by decide) (he : starEach (e :: es) X.env = (false, eval e X.env) :: starEach es X.env := by rfl) (hpl : (backTo pos (starEach es X.env)).any (·.1) = false := by rfl) :
    JR S X (.Call (.Name x p) (e :: es) [] pos) (pCall P pcs) := by
  obtain ⟨t, h1, h2⟩ := ha
  refine ⟨fun W => tCallS (spOf X.K S P) (WE W) (t W), fun W tk => pe_callS F hr hg hm hk hb (L2N.passAt tk) (h1 W tk) hdb he hpl, fun W wp B N H σ ρ Q Q' R hw q kk => h2 W wp B N H σ ρ _ _ R hw q fun N1 H1 vs as ρ1 R1 e1 ca q1 => ?_⟩
  obtain ⟨one, q1⟩ := q1
  obtain ⟨RC, src⟩ := R1.callee ca one
  refine ⟨calleeB N1 H1 vs as, as, _, _, rfl, RC, q1, fun N2 H2 v r x2 ok q2 => ?_, fun c N2 H2 x2 q2 => ?_⟩
  · have R2 := R1.after rfl rfl src (fun _ z => z) x2
    refine kk N2 H2 v r ρ1 R2 (e1.trans x2.ex) ?_ q2
    cases r with
    | v d => exact ok
    | own ds =>
      obtain ⟨a, ws, g1, g2, g3, g4, g5⟩ := ok
      exact ⟨a, ws, g1, g2, g3, g4, R1.fresh g5, R1.away g5⟩
    | src =>
      obtain ⟨a, ws, g1, g2, g3, g4, g5⟩ := ok
      exact ⟨a, ws, g1, g2, g3, g4, R1.fresh g5, R1.away g5⟩
  · exact hw c N2 H2 ρ1 (R1.after rfl rfl src (fun _ z => z) x2) q2
theorem je_call (F : FnOk X.prog X.w X.K X.mg X.base (L2N.CX X.prog X.w) k f fd ps (spOf X.K S P)) (hr : Room k X.A) (hg : Gl X x) (hm : X.mg x = some (.ref f)) (hk : PySem.W.keepIn X.K (.ref f) = true) (hb : Binds X.K fd ps [])
    (ha : JC S X (e :: es) pcs) (hdb : (x == ("__debug__" : Str)) = false := by decide) (he : starEach (e :: es) X.env = (false, eval e X.env) :: starEach es X.env := by rfl) (hpl : (backTo pos (starEach es X.env)).any (·.1) = false := by rfl) :
    JE S X (.Call (.Name x p) (e :: es) [] pos) (pRE (pCall P pcs)) := je_of (jr_call F hr hg hm hk hb ha hdb he hpl)
end

/-! ### a def keeps its promise -/
theorem start_eq {N : List Str} {vs : List V} : start N vs = vs.map some ++ List.replicate (N.length - vs.length) none := rfl
theorem Rel.start {K : PySem.W.Frag} {S : Src} {B : Bs} {N H : Hp} {vs : List V} {as : List Sl} (R : Rel K S B N H (vs.map some) as) (m : Nat) : Rel K S B N H (vs.map some ++ List.replicate m none) (as ++ List.replicate m .un) := by
  have hl : vs.length = as.length := by
    have := R.len
    rw [List.length_map] at this
    exact this
  refine ⟨R.b, R.ext, by rw [List.length_append, List.length_append, List.length_map, hl, List.length_replicate, List.length_replicate], fun i s h => ?_, fun i j s t a ne h1 h2 m1 m2 e1 e2 => ?_⟩
  · by_cases hi : i < as.length
    · rw [List.getElem?_append_left hi] at h
      obtain ⟨x, e, q⟩ := R.ok i s h
      exact ⟨x, by rw [List.getElem?_append_left (by rw [List.length_map, hl]; exact hi)]; exact e, q⟩
    · rw [List.getElem?_append_right (by omega), List.getElem?_replicate] at h
      split at h
      · rename_i hlt
        cases h
        exact ⟨none, by rw [List.getElem?_append_right (by rw [List.length_map, hl]; omega), List.getElem?_replicate, if_pos (by rw [List.length_map, hl]; exact hlt)], trivial⟩
      · cases h
  · have lt : ∀ {i : Nat} {s : Sl}, (as ++ List.replicate m .un)[i]? = some s → s.mut = true → i < as.length ∧ as[i]? = some s := fun {i s} h hm => by
      by_cases hi : i < as.length
      · rw [List.getElem?_append_left hi] at h
        exact ⟨hi, h⟩
      · rw [List.getElem?_append_right (by omega), List.getElem?_replicate] at h
        split at h
        · cases h
          cases hm
        · cases h
    obtain ⟨l1, k1⟩ := lt h1 m1
    obtain ⟨l2, k2⟩ := lt h2 m2
    rw [List.getElem?_append_left (by rw [List.length_map, hl]; exact l1)] at e1
    rw [List.getElem?_append_left (by rw [List.length_map, hl]; exact l2)] at e2
    exact R.sep i j s t a ne k1 k2 m1 m2 e1 e2
/-- how a def's slots stand at its entry -/
def begin_ (n : Nat) (as : List Sl) : List Sl := as ++ List.replicate (n - as.length) .un
def enOf (Qr : Rt → Prop) (Qe : Value → Prop) : PEn := { nx := fun _ => Qr (.v .none), rt := Qr, ex := fun c _ => Qe c }
section
variable {P : Program} {w : World} {K : PySem.W.Frag} {mg : Str → Option Value} {base : Heap} {S : Src}
end
end PD

set_option Elab.async false
set_option linter.all false
set_option maxRecDepth 100000
/-! Targets, loops, exceptions: told over data. -/
namespace PD
open PySem L2 GxR

/-! ### targets -/
abbrev PTG := PyData → List Sl → (List Sl → Prop) → Prop
def SimG (K : PySem.W.Frag) (S : Src) (g : TG) (p : PTG) : Prop := ∀ (B : Bs) (N H : Hp) (σ : St) (ρ : List Sl) (v : V) (d : PyData) (Q : St → Hp → Prop) (Q' : List Sl → Prop), Rel K S B N H σ ρ → Rp K N v d → p d ρ Q' →
  (∀ N' H' σ' ρ', Rel K S B N' H' σ' ρ' → Ex N N' → Q' ρ' → Q σ' H') → g v σ H Q
def JG (S : Src) (X : Cx) (tg : Expr) (p : PTG) : Prop := ∃ g, PG X tg g ∧ SimG X.K S g p
abbrev PTGs := List PyData → List Sl → (List Sl → Prop) → Prop
def SimGs (K : PySem.W.Frag) (S : Src) (g : TGs) (p : PTGs) : Prop := ∀ (B : Bs) (N H : Hp) (σ : St) (ρ : List Sl) (vs : List V) (ds : List PyData) (Q : St → Hp → Prop) (Q' : List Sl → Prop), Rel K S B N H σ ρ → RpAll K N vs ds → p ds ρ Q' →
  (∀ N' H' σ' ρ', Rel K S B N' H' σ' ρ' → Ex N N' → Q' ρ' → Q σ' H') → g vs σ H Q
def JGs (S : Src) (X : Cx) (tgs : List Expr) (p : PTGs) : Prop := ∃ g, PGs X tgs g ∧ SimGs X.K S g p
def gtName (i : Nat) : PTG := fun d ρ Q => Q (ρ.set i (.v d))
def gtNil : PTGs := fun ds ρ Q => ds = [] ∧ Q ρ
def gtCons (p : PTG) (q : PTGs) : PTGs := fun ds ρ Q => match ds with
  | d :: r => p d ρ fun ρ1 => q r ρ1 Q
  | [] => False
def gtTup (n : Nat) (q : PTGs) : PTG := fun d ρ Q => match d with
  | .tuple ds => ds.length = n ∧ q ds ρ Q
  | .list ds => ds.length = n ∧ q ds ρ Q
  | _ => False
section
variable {S : Src} {X : Cx} {e a b c : Expr} {es : List Expr} {pos : Pos} {pa pb : PTE} {pr : PTR} {pg : PTG} {pgs : PTGs} {body : List Stmt} {ps : PTS} {qa : PTT}
theorem jg_name (i : Nat) {x : Str} (hN : X.N.Nodup) (hi : X.N[i]? = some x := by rfl) (hx : Loc X.env.scope x := by first | exact Or.inl rfl | exact Or.inr rfl) (hf : X.fn x = true ∨ X.env.scope.names.lookup x = some .local := by first | exact .inl rfl | exact .inr rfl | assumption) :
    JG S X (.Name x pos) (gtName i) := ⟨gName i, pg_name hN hi hx hf, fun B N H σ ρ v d Q Q' R r q k => k N H _ _ (R.setV r) (Ex.refl _) q⟩
theorem jgs_nil : JGs S X [] gtNil := ⟨gNil, pgs_nil, fun B N H σ ρ vs ds Q Q' R r q k => by
  obtain ⟨e, q⟩ := q
  subst e
  cases r
  exact ⟨rfl, k N H σ ρ R (Ex.refl _) q⟩⟩
theorem jgs_cons (h1 : JG S X e pg) (h2 : JGs S X es pgs) (hs : (assignEach (e :: es) X.env).map (·.2) = assign e X.env :: (assignEach es X.env).map (·.2) := by rfl) : JGs S X (e :: es) (gtCons pg pgs) := by
  obtain ⟨g, a1, a2⟩ := h1
  obtain ⟨u, b1, b2⟩ := h2
  refine ⟨gCons g u, pgs_cons a1 b1 hs, fun B N H σ ρ vs ds Q Q' R r q k => ?_⟩
  cases r with
  | nil => exact q.elim
  | cons h t => exact ⟨_, _, rfl, a2 B N H σ ρ _ _ _ _ R h q fun N1 H1 σ1 ρ1 R1 e1 q1 => b2 B N1 H1 σ1 ρ1 _ _ _ _ R1 (t.up e1) q1 fun N2 H2 σ2 ρ2 R2 e2 q2 => k N2 H2 σ2 ρ2 R2 (e1.trans e2) q2⟩
theorem pg_or {tg : Expr} {g g' : TG} (h : PG X tg g) (h' : PG X tg g') : PG X tg (fun v σ H Q => g v σ H Q ∨ g' v σ H Q) := ⟨fun pins s σ H v u Q I r hw => hw.elim (fun z => h.run pins s σ H v u Q I r z) fun z => h'.run pins s σ H v u Q I r z⟩
theorem jg_tup {k n : Nat} (hc : X.calm = true) (h : JGs S X es pgs) (hn : (assignEach es X.env).length = n := by rfl) (hst : (assignEach es X.env).findIdx? (·.1) = none := by rfl) : JG S X (.Tuple es k pos) (gtTup n pgs) := by
  obtain ⟨g, a1, a2⟩ := h
  refine ⟨fun v σ H Q => gTup X.K n g v σ H Q ∨ gLst X.K n g v σ H Q, pg_or (pg_tup hc a1 hn hst) (pg_lst hc a1 hn hst), fun B N H σ ρ v d Q Q' R r q k => ?_⟩
  cases r with
  | tup h1 h2 => exact .inl ⟨_, _, rfl, ex_t R.sub h1, by rw [h2.length]; exact q.1, a2 B N H σ ρ _ _ _ _ R h2 q.2 k⟩
  | lst h1 h2 => exact .inr ⟨_, _, rfl, .inl (.inl (R.sub _ _ h1)), by rw [h2.length]; exact q.1, a2 B N H σ ρ _ _ _ _ R h2 q.2 k⟩
  | _ => exact q.elim
/-- target = e -/
def qAsg (p : PTE) (g : PTG) : PTS := fun P ρ => p P.ex ρ fun d ρ1 => g d ρ1 P.nx
theorem js_asg {tg : Expr} (ha : JE S X e pa) (hg : JG S X tg pg) (hs : swapsWithSole [tg] e pos.line X.env = pure false := by rfl) (hw : swappedStores [tg] e X.env = pure none := by rfl)
    (h1 : (assignEach [tg] X.env).map (·.2) = [assign tg X.env] := by rfl) : JS S X (.Assign [tg] e pos) (qAsg pa pg) := by
  obtain ⟨t, a1, a2⟩ := ha
  obtain ⟨g, b1, b2⟩ := hg
  exact ⟨fun W => tAsg (t W) g, fun W k _ => ps_asg (a1 W k) b1 hs hw h1, fun W D P B N H σ ρ R C q => a2 W P.ex B N H σ ρ _ _ R C.w q fun N1 H1 v d ρ1 R1 _ r q1 => b2 B N1 H1 σ ρ1 v d _ _ R1 r q1 fun N2 H2 σ2 ρ2 R2 _ q2 => C.nx N2 H2 σ2 ρ2 R2 q2⟩
/-- a, b = x, y with plain local names -/
def qPar (i j : Nat) (q : PTA) : PTS := fun P ρ => q P.ex ρ fun ds ρ1 => match ds with
  | [d, e] => P.nx ((ρ1.set i (.v d)).set j (.v e))
  | _ => False
theorem js_par (i j : Nat) {x y : Str} {px py pt : Pos} {kt k2 : Nat} {pt2 : Pos} {qs : PTA} (hc : X.calm = true) (hN : X.N.Nodup) (ha : JA S X [a, b] qs) (hi : X.N[i]? = some x := by rfl) (hj : X.N[j]? = some y := by rfl) (hij : i ≠ j := by decide)
    (hx : X.env.scope.names.lookup x = some .local := by rfl) (hy : X.env.scope.names.lookup y = some .local := by rfl)
    (hw : swappedStores [.Tuple [.Name x px, .Name y py] kt pt] (.Tuple [a, b] k2 pt2) X.env = pure (some [x, y]) := by rfl)
    (hs : swapsWithSole [.Tuple [.Name x px, .Name y py] kt pt] (.Tuple [a, b] k2 pt2) pos.line X.env = pure false := by rfl) :
    JS S X (.Assign [.Tuple [.Name x px, .Name y py] kt pt] (.Tuple [a, b] k2 pt2) pos) (qPar i j qs) := by
  obtain ⟨t, a1, a2⟩ := ha
  refine ⟨fun W => tPar i j (t W), fun W k _ => ps_par hc hN hi hj hij hx hy (a1 W k) hw hs, fun W D P B N H σ ρ R C q => a2 W P.ex B N H σ ρ _ _ R C.w q fun N1 H1 vs ds ρ1 R1 _ r q1 => ?_⟩
  cases r with
  | nil => exact q1.elim
  | cons h t =>
    cases t with
    | nil => exact q1.elim
    | cons h' t =>
      cases t with
      | cons _ _ => exact q1.elim
      | nil => exact ⟨_, _, rfl, C.nx N1 H1 _ _ ((R1.setV h).setV h') q1⟩

/-! ### what is walked -/
abbrev PTI := PWh → List Sl → (List PyData → List Sl → Prop) → Prop
/-- the iterator hands out these data, whatever is added to the heap meanwhile -/
def ItOk (K : PySem.W.Frag) (N : Hp) (J : It) (ds : List PyData) : Prop := ∀ N2 H2, Ex N N2 → Ex N2 H2 → ∀ i : Nat,
  (∀ d, ds[i]? = some d → J.go i H2 ∧ ∀ x H3, J.yld i H2 x H3 → (H3 = H2 ∧ Rp K N2 x d) ∨ ∃ T o, H2 T = none ∧ H3 = upd H2 T o ∧ Rp K (upd N2 T o) x d) ∧ (ds.length ≤ i → J.stop i H2)
def SimI (K : PySem.W.Frag) (S : Src) (ti : WX → TI) (p : PTI) : Prop := ∀ (W : WX) (wp : PWh) (B : Bs) (N H : Hp) (σ : St) (ρ : List Sl) (R : It → Hp → Prop) (Q' : List PyData → List Sl → Prop), Rel K S B N H σ ρ → WOk K S B σ W wp → p wp ρ Q' →
  (∀ N' H' J ds ρ', Rel K S B N' H' σ ρ' → Ex N N' → ItOk K N' J ds → Q' ds ρ' → R J H') → ti W σ H R
def JI (S : Src) (X : Cx) (tg it : Expr) (p : PTI) : Prop := ∃ ti : WX → TI, (∀ W, L2N.Takes X W → PI X tg it (ti W)) ∧ SimI X.K S ti p
theorem itok_list {K : PySem.W.Frag} {N : Hp} {a : Addr} {vs : List V} {ds : List PyData} (h1 : N a = some (.lst vs)) (h2 : RpAll K N vs ds) : ItOk K N (Itl K a) ds := fun N2 H2 e1 e2 i => by
  have hq : SqL K H2 a vs := .inl (.inl (e2 _ _ (e1 _ _ h1)))
  refine ⟨fun d hd => ?_, fun hl => ⟨vs, hq, by rw [h2.length]; exact hl⟩⟩
  obtain ⟨v, g1, g2⟩ := h2.get hd
  refine ⟨⟨vs, v, hq, g1⟩, fun x H3 y => ?_⟩
  obtain ⟨e, y⟩ := y
  have := y vs hq
  rw [g1] at this
  cases this
  exact .inl ⟨e, g2.up e1⟩
theorem itok_tup {K : PySem.W.Frag} {N : Hp} {a : Addr} {vs : List V} {ds : List PyData} (h1 : SqT K N a vs) (h2 : RpAll K N vs ds) : ItOk K N (Itt K a) ds := fun N2 H2 e1 e2 i => by
  have hq : SqT K H2 a vs := ex_t e2 (ex_t e1 h1)
  refine ⟨fun d hd => ?_, fun hl => ⟨vs, hq, by rw [h2.length]; exact hl⟩⟩
  obtain ⟨v, g1, g2⟩ := h2.get hd
  refine ⟨⟨vs, v, hq, g1⟩, fun x H3 y => ?_⟩
  obtain ⟨e, y⟩ := y
  have := y vs hq
  rw [g1] at this
  cases this
  exact .inl ⟨e, g2.up e1⟩
/-- lo, lo + 1, .. -/
def rngD (lo : Int) (n : Nat) : List PyData := (List.range n).map fun (i : Nat) => PyData.int (lo + (i : Int))
theorem rngD_get {lo : Int} {n i : Nat} {d : PyData} (h : (rngD lo n)[i]? = some d) : i < n ∧ d = .int (lo + (i : Int)) := by
  unfold rngD at h
  rw [List.getElem?_map] at h
  by_cases hi : i < n
  · rw [List.getElem?_range hi] at h
    exact ⟨hi, (Option.some.inj h).symm⟩
  · rw [List.getElem?_eq_none (by simpa using hi)] at h
    cases h
theorem rngD_length {lo : Int} {n : Nat} : (rngD lo n).length = n := by unfold rngD; simp
theorem itok_rng {K : PySem.W.Frag} {N : Hp} {lo : Int} {n : Nat} : ItOk K N (Itr lo n) (rngD lo n) := fun N2 H2 e1 e2 i => by
  refine ⟨fun d hd => ?_, fun hl => by rw [rngD_length] at hl; exact hl⟩
  obtain ⟨g1, g2⟩ := rngD_get hd
  refine ⟨g1, fun x H3 y => ?_⟩
  obtain ⟨e, y⟩ := y
  subst y
  rw [g2]
  exact .inl ⟨e, .int _⟩
/-- over a list or a tuple -/
def piSeq (p : PTE) : PTI := fun wp ρ Q => p wp ρ fun d ρ1 => match d with
  | .list ds => Q ds ρ1
  | .tuple ds => Q ds ρ1
  | _ => False
theorem pi_or {tg it : Expr} {w1 w2 : TI} (h : PI X tg it w1) (h' : PI X tg it w2) : PI X tg it (fun σ H R => w1 σ H R ∨ w2 σ H R) := ⟨fun pins s σ H R I hw => hw.elim (fun z => h.run pins s σ H R I z) fun z => h'.run pins s σ H R I z⟩
/-- of a value: a list's, a tuple's iterator -/
def iSeq (K : PySem.W.Frag) (tl : TE) : TI := fun σ H R => tl σ H fun x H1 => ∃ a, x = .ref a ∧ (((∃ xs, SqL K H1 a xs) ∧ R (Itl K a) H1) ∨ ((∃ xs, SqT K H1 a xs) ∧ R (Itt K a) H1))
theorem pi_seq {tg l : Expr} {tl : TE} (hl : PE X l tl) : PI X tg l (iSeq X.K tl) := by
  refine ⟨fun pins s σ H R I h => ?_⟩
  refine thn (hl.run pins s σ H _ I h) fun v s1 ⟨x, H1, I1, r1, q1⟩ => ?_
  obtain ⟨a, e, q1⟩ := q1
  subst e
  cases r1
  rcases q1 with ⟨⟨xs, hq⟩, q⟩ | ⟨⟨xs, hq⟩, q⟩
  · obtain ⟨its, rv, p, hz⟩ := I1.list hq
    refine wpAny_pyIter_list p.isList ?_
    refine ⟨s1.heap.objs.size, [s1.heap.objs.size], _, _, H1, rfl, I1.kept (t' := s1.toks) fun b o e => Heap.get?_push_of_some _ e, turn_list a _, ⟨_, Heap.get?_push_size _ rfl, rfl, rfl⟩, fun b hb => ?_, q⟩
    have e : b = s1.heap.objs.size := by simpa using hb
    subst e
    exact I1.fpOk (Nat.le_refl _) (I1.hok.fresh (Nat.le_refl _))
  · obtain ⟨its, rv, p, hz⟩ := I1.tuple hq
    refine wpAny_pyIter_tuple (show s1.heap.IsTuple a its.toArray from p) ?_
    refine ⟨s1.heap.objs.size, [s1.heap.objs.size], _, _, H1, rfl, I1.kept (t' := s1.toks) fun b o e => Heap.get?_push_of_some _ e, turn_tuple a _, ⟨_, Heap.get?_push_size _ rfl, rfl, rfl⟩, fun b hb => ?_, q⟩
    have e : b = s1.heap.objs.size := by simpa using hb
    subst e
    exact I1.fpOk (Nat.le_refl _) (I1.hok.fresh (Nat.le_refl _))
theorem ji_seq {tg : Expr} (ha : JE S X e pa) : JI S X tg e (piSeq pa) := by
  obtain ⟨t, a1, a2⟩ := ha
  refine ⟨fun W => iSeq X.K (t W), fun W k => pi_seq (a1 W k), fun W wp B N H σ ρ R Q' RR hw q k => a2 W wp B N H σ ρ _ _ RR hw q fun N1 H1 v d ρ1 R1 e1 r q1 => ?_⟩
  cases r with
  | lst h1 h2 => exact ⟨_, rfl, .inl ⟨⟨_, .inl (.inl (R1.sub _ _ h1))⟩, k N1 H1 _ _ ρ1 R1 e1 (itok_list h1 h2) q1⟩⟩
  | tup h1 h2 => exact ⟨_, rfl, .inr ⟨⟨_, ex_t R1.sub h1⟩, k N1 H1 _ _ ρ1 R1 e1 (itok_tup h1 h2) q1⟩⟩
  | _ => exact q1.elim
/-- over a list that stays as it is for good -/
def piFz (i : Nat) : PTI := fun _ ρ Q => match ρ[i]? with
  | some (.fz ds) => Q ds ρ
  | _ => False
theorem itok_sql {K : PySem.W.Frag} {N : Hp} {a : Addr} {vs : List V} {ds : List PyData} (h1 : SqL K N a vs) (h2 : RpAll K N vs ds) : ItOk K N (Itl K a) ds := fun N2 H2 e1 e2 i => by
  have hq : SqL K H2 a vs := ex_l e2 (ex_l e1 h1)
  refine ⟨fun d hd => ?_, fun hl => ⟨vs, hq, by rw [h2.length]; exact hl⟩⟩
  obtain ⟨v, g1, g2⟩ := h2.get hd
  refine ⟨⟨vs, v, hq, g1⟩, fun x H3 y => ?_⟩
  obtain ⟨e, y⟩ := y
  have := y vs hq
  rw [g1] at this
  cases this
  exact .inl ⟨e, g2.up e1⟩
theorem ji_fz (i : Nat) {x : Str} {px : Pos} {tg : Expr} (hN : X.N[i]? = some x := by rfl) (hv : Vis X.env.scope x := by first | exact Or.inl rfl | exact Or.inr (Or.inl rfl) | exact Or.inr (Or.inr rfl)) (hd : (x == ("__debug__" : Str)) = false := by decide)
    (hcd : (x == ("__classdict__" : Str)) = false := by decide) : JI S X tg (.Name x px) (piFz i) := by
  refine ⟨fun W => iSeq X.K (tVar i), fun W k => pi_seq (pv i hN hv hd hcd), fun W wp B N H σ ρ R Q' RR hw q k => ?_⟩
  unfold piFz at q
  split at q
  · rename_i ds h
    obtain ⟨x, ex, a, ws, rfl, h1, h2⟩ := RR.ok i _ h
    exact ⟨.ref a, ex, a, rfl, .inl ⟨⟨ws, ex_l RR.sub h1⟩, k N H _ _ ρ RR (Ex.refl _) (itok_sql h1 h2) q⟩⟩
  · exact q.elim
def rOk (i : Int) : Prop := -4611686018427387904 ≤ i ∧ i < 4611686018427387904
def piRng1 (q : PTA) : PTI := fun wp ρ Q => q wp ρ fun ds ρ1 => match ds with
  | [.int j] => rOk j ∧ Q (rngD 0 j.toNat) ρ1
  | _ => False
def piRng2 (q : PTA) : PTI := fun wp ρ Q => q wp ρ fun ds ρ1 => match ds with
  | [.int i, .int j] => rOk i ∧ rOk j ∧ Q (rngD i (j - i).toNat) ρ1
  | _ => False
variable {qs : PTA} {tg : Expr} {p : Pos}
theorem ji_rng1 (hg : Gl X "range") (hm : X.mg "range" = none) (ha : JA S X [a] qs) (hs : starEach [a] X.env = [(false, eval a X.env)] := by rfl) : JI S X tg (.Call (.Name "range" p) [a] [] pos) (piRng1 qs) := by
  obtain ⟨t, a1, a2⟩ := ha
  refine ⟨fun W => iRng1 (t W), fun W k => pi_range1 hg hm (a1 W k) hs, fun W wp B N H σ ρ R Q' RR hw q k => a2 W wp B N H σ ρ _ _ RR hw q fun N1 H1 vs ds ρ1 R1 e1 r q1 => ?_⟩
  cases r with
  | nil => exact q1.elim
  | cons h t =>
    cases t with
    | cons _ _ => cases h <;> exact q1.elim
    | nil =>
      cases h with
      | int j => exact ⟨j, rfl, q1.1.1, q1.1.2, k N1 H1 _ _ ρ1 R1 e1 itok_rng q1.2⟩
      | _ => exact q1.elim
theorem ji_rng2 (hg : Gl X "range") (hm : X.mg "range" = none) (ha : JA S X [a, b] qs) (hs : starEach [a, b] X.env = [(false, eval a X.env), (false, eval b X.env)] := by rfl) (hs2 : starEach [b] X.env = [(false, eval b X.env)] := by rfl) :
    JI S X tg (.Call (.Name "range" p) [a, b] [] pos) (piRng2 qs) := by
  obtain ⟨t, a1, a2⟩ := ha
  refine ⟨fun W => iRng2 (t W), fun W k => pi_range2 hg hm (a1 W k) hs hs2, fun W wp B N H σ ρ R Q' RR hw q k => a2 W wp B N H σ ρ _ _ RR hw q fun N1 H1 vs ds ρ1 R1 e1 r q1 => ?_⟩
  cases r with
  | nil => exact q1.elim
  | cons h t =>
    cases t with
    | nil => cases h <;> exact q1.elim
    | cons h' t =>
      cases t with
      | cons _ _ => cases h <;> first | exact q1.elim | (cases h' <;> exact q1.elim)
      | nil =>
        cases h with
        | int i =>
          cases h' with
          | int j => exact ⟨i, j, rfl, ⟨q1.1.1, q1.1.2, q1.2.1.1, q1.2.1.2⟩, k N1 H1 _ _ ρ1 R1 e1 itok_rng q1.2.2⟩
          | _ => exact q1.elim
        | _ => first | exact q1.elim | (cases h' <;> exact q1.elim)
/-- lo, lo + c, .. -/
def stpD (lo c : Int) (n : Nat) : List PyData := (List.range n).map fun (i : Nat) => PyData.int (lo + (i : Int) * c)
theorem itok_stp {K : PySem.W.Frag} {N : Hp} {lo c : Int} {n : Nat} : ItOk K N (Itc lo c n) (stpD lo c n) := fun N2 H2 e1 e2 i => by
  have hlen : (stpD lo c n).length = n := by unfold stpD; simp
  refine ⟨fun d hd => ?_, fun hl => by rw [hlen] at hl; exact hl⟩
  have hi : i < n := by rw [← hlen]; exact (List.getElem?_eq_some_iff.mp hd).1
  unfold stpD at hd
  rw [List.getElem?_map, List.getElem?_range hi] at hd
  refine ⟨hi, fun x H3 y => ?_⟩
  obtain ⟨e, y⟩ := y
  subst y
  rw [← Option.some.inj hd]
  exact .inl ⟨e, .int _⟩
def piRng3 (q : PTA) : PTI := fun wp ρ Q => q wp ρ fun ds ρ1 => match ds with
  | [.int i, .int j, .int c] => ∃ n, RgC i j c n ∧ Q (stpD i c n) ρ1
  | _ => False
theorem ji_rng3 {c : Expr} (hg : Gl X "range") (hm : X.mg "range" = none) (ha : JA S X [a, b, c] qs) (hs : starEach [a, b, c] X.env = (false, eval a X.env) :: starEach [b, c] X.env := by rfl) (hpl : (backTo pos (starEach [b, c] X.env)).any (·.1) = false := by rfl) :
    JI S X tg (.Call (.Name "range" p) [a, b, c] [] pos) (piRng3 qs) := by
  obtain ⟨t, a1, a2⟩ := ha
  refine ⟨fun W => iRng3 (t W), fun W k => pi_range3 hg hm (a1 W k) hs hpl, fun W wp B N H σ ρ R Q' RR hw q k => a2 W wp B N H σ ρ _ _ RR hw q fun N1 H1 vs ds ρ1 R1 e1 r q1 => ?_⟩
  unfold piRng3 at q
  match vs, ds, r, q1 with
  | _, [.int i, .int j, .int c], .cons (.int _) (.cons (.int _) (.cons (.int _) .nil)), q1 =>
    obtain ⟨n, h1, q1⟩ := q1
    exact ⟨i, j, c, n, rfl, h1, k N1 H1 _ _ ρ1 R1 e1 itok_stp q1⟩
/-! ### for, while -/
def qFor (pi : PTI) (pg : PTG) (pb : PTS) : PTS := fun P ρ => pi P.ex ρ fun ds ρ1 => ∃ I : Nat → List Sl → Prop, I 0 ρ1 ∧
  (∀ (i : Nat) (d : PyData) (ρ : List Sl), ds[i]? = some d → I i ρ → pg d ρ fun ρ2 => pb { P with nx := I (i + 1), ct := I (i + 1), bk := P.nx } ρ2) ∧ ∀ ρ, I ds.length ρ → P.nx ρ
theorem js_for {iter : Expr} {pi : PTI} (hc : X.calm = true) (hi : JI S X tg iter pi) (hg : JG S X tg pg) (hb : JSs S X body ps) (hs : ∀ x, foldedSetIterable iter X.env x = pure x := by intro _; rfl) : JS S X (.For tg iter body [] pos) (qFor pi pg ps) := by
  obtain ⟨ti, i1, i2⟩ := hi
  obtain ⟨g, g1, g2⟩ := hg
  obtain ⟨t, b1, b2⟩ := hb
  refine ⟨fun W => tFor (ti W) g (t W), fun W k o => ps_for o hc (i1 W k) g1 (b1 W k o) hs, fun W D P B N H σ ρ R C q => i2 W P.ex B N H σ ρ _ _ R C.w q fun N1 H1 J ds ρ1 R1 e1 it q1 => ?_⟩
  obtain ⟨I, h0, hstep, hend⟩ := q1
  have eL : Ex B.L N1 := R1.ext.fl
  refine ⟨fun i m σ' H' => m = ds.length - i ∧ i ≤ ds.length ∧ ∃ N' ρ', Rel X.K S (B.at N1) N' H' σ' ρ' ∧ I i ρ', ⟨ds.length, by simp, Nat.zero_le _, N1, ρ1, R1.raise (Ex.refl _), h0⟩, ?_⟩
  rintro i m σ' H' ⟨rfl, hle, N', ρ', R', hI⟩
  obtain ⟨h1, h2⟩ := it N' H' R'.ext.fl R'.sub i
  by_cases hi : i < ds.length
  · obtain ⟨go, yl⟩ := h1 ds[i] (List.getElem?_eq_getElem hi)
    refine .inr ⟨go, fun σ2 H2 => ∃ N2 ρ2, Rel X.K S (B.at N1) N2 H2 σ2 ρ2 ∧ I (i + 1) ρ2, fun σ2 H2 ⟨N2, ρ2, R2, hI2⟩ => ⟨ds.length - (i + 1), by omega, rfl, hi, N2, ρ2, R2, hI2⟩, fun x H2 y => ?_⟩
    have st := hstep i ds[i] ρ' (List.getElem?_eq_getElem hi) hI
    have go_on : ∀ N2 H2, Rel X.K S (B.at N1) N2 H2 σ' ρ' → Rp X.K N2 x ds[i] → g x σ' H2 fun σ3 H3 => t W { D with nx := fun σ2 H2 => ∃ N2 ρ2, Rel X.K S (B.at N1) N2 H2 σ2 ρ2 ∧ I (i + 1) ρ2, ct := fun σ2 H2 => ∃ N2 ρ2, Rel X.K S (B.at N1) N2 H2 σ2 ρ2 ∧ I (i + 1) ρ2, bk := D.nx } σ3 H3 := by
      intro N2 H2 R2 rp
      have C1 := C.raise eL
      refine g2 (B.at N1) N2 H2 σ' ρ' x _ _ _ R2 rp st fun N3 H3 σ3 ρ3 R3 e3 q3 => ?_
      exact b2 W _ { P with nx := I (i + 1), ct := I (i + 1), bk := P.nx } (B.at N1) N3 H3 σ3 ρ3 R3 ⟨fun N4 H4 σ4 ρ4 R4 q4 => ⟨N4, ρ4, R4, q4⟩, C1.rt, fun N4 H4 σ4 ρ4 R4 q4 => C1.nx N4 H4 σ4 ρ4 R4 q4, fun N4 H4 σ4 ρ4 R4 q4 => ⟨N4, ρ4, R4, q4⟩, C1.ex⟩ q3
    rcases yl x H2 y with ⟨rfl, rp⟩ | ⟨T, o, hT, rfl, rp⟩
    · exact go_on N' H2 R' rp
    · exact go_on _ _ (R'.newM hT) rp
  · have e : i = ds.length := by omega
    subst e
    exact .inl ⟨h2 (Nat.le_refl _), C.nx N' H' σ' ρ' (R'.lower eL) (hend ρ' hI)⟩
def qWhile (pc : PTT) (pb : PTS) : PTS := fun P ρ => ∃ I : Nat → List Sl → Prop, (∃ m, I m ρ) ∧ ∀ (m : Nat) (ρ : List Sl), I m ρ → pc P.ex ρ fun b ρ1 =>
  if b = true then pb { P with nx := fun ρ2 => ∃ m', m' < m ∧ I m' ρ2, ct := fun ρ2 => ∃ m', m' < m ∧ I m' ρ2, bk := P.nx } ρ1 else P.nx ρ1
theorem js_while (hc : JT S X c qa) (hb : JSs S X body ps) : JS S X (.While c body [] pos) (qWhile qa ps) := by
  obtain ⟨tc, c1, c2⟩ := hc
  obtain ⟨t, b1, b2⟩ := hb
  refine ⟨fun W => tWhile (tc W) (t W), fun W k o => ps_while o (c1 W k) (b1 W k o), fun W D P B N H σ ρ R C q => ?_⟩
  obtain ⟨I, ⟨m0, h0⟩, hstep⟩ := q
  refine ⟨fun m σ' H' => ∃ N' ρ', Rel X.K S B N' H' σ' ρ' ∧ I m ρ', ⟨m0, N, ρ, R, h0⟩, ?_⟩
  rintro m σ' H' ⟨N', ρ', R', hI⟩
  refine c2 W P.ex B N' H' σ' ρ' _ _ R' C.w (hstep m ρ' hI) fun N1 H1 k ρ1 R1 _ q1 => ?_
  cases k with
  | true =>
    rw [if_pos rfl] at q1 ⊢
    refine ⟨fun σ2 H2 => ∃ m', m' < m ∧ ∃ N' ρ', Rel X.K S B N' H2 σ2 ρ' ∧ I m' ρ', fun σ2 H2 ⟨m', h, z⟩ => ⟨m', h, z⟩, b2 W _ { P with nx := fun ρ2 => ∃ m', m' < m ∧ I m' ρ2, ct := fun ρ2 => ∃ m', m' < m ∧ I m' ρ2, bk := P.nx } B N1 H1 σ' ρ1 R1 ⟨fun N2 H2 σ2 ρ2 R2 ⟨m', h, z⟩ => ⟨m', h, N2, ρ2, R2, z⟩, C.rt, fun N2 H2 σ2 ρ2 R2 z => C.nx N2 H2 σ2 ρ2 R2 z, fun N2 H2 σ2 ρ2 R2 ⟨m', h, z⟩ => ⟨m', h, N2, ρ2, R2, z⟩, C.ex⟩ q1⟩
  | false =>
    rw [if_neg Bool.false_ne_true] at q1 ⊢
    exact C.nx N1 H1 σ' ρ1 R1 q1

/-! ### exceptions -/
/-- raise C('..'), C an own class over ValueError without __init__ -/
def qRaise (C : Addr) : PTS := fun P ρ => P.ex (.ref C) ρ
theorem js_raise {C : Addr} {x m : Str} {j : Nat} {p p2 pos' : Pos} (hc : X.calm = true) (q : PySem.W.excIn X.K C [.type "ValueError", .type "Exception", .type "BaseException", .type "object"] "ValueError.__new__" = true) (gC : X.mg x = some (.ref C)) (kC : PySem.W.keepIn X.K (.ref C) = true)
    (b1 : PySem.W.subIn X.K (.ref C) (.type "BaseException") = some true) (t1 : PySem.W.typeIn X.K (.ref C) = some (.type "type")) (hg : Gl X x) (hdb : (x == ("__debug__" : Str)) = false := by decide) :
    JS S X (.Raise (some (.Call (.Name x p) [.Constant (.str m) j p2] [] pos')) none pos) (qRaise C) :=
  ⟨fun W => fun _ σ H => (fun (_ : St) (H : Hp) (Q : XK) => Q (.ref C) none H) σ H fun cls d H' => W cls d σ H', fun W tk _ => L2N.ps_raise hc tk (L2N.pmk_own PySem.F.excBase_ValueError q gC kC (raises_own b1 t1) hg hdb), fun W D P B N H σ ρ R C q => C.ex _ N H σ ρ R q⟩
theorem pss_imp {st : List Stmt} {t t' : TS} (h : PSs X st t) (k : ∀ D σ H, t' D σ H → t D σ H) : PSs X st t' := ⟨fun pins s σ H D I q => h.run pins s σ H D I (k _ _ _ q)⟩
/-- try: .. except x as n: .. -/
theorem taken0 {X : Cx} : L2N.Takes X (fun _ _ _ _ => False) := fun _ _ z => by
  obtain ⟨_, _, _, _, _, _, _, _, _, _, _, _, _, _, _, _, no⟩ := z
  exact no.elim
def qEx (K : PySem.W.Frag) (cls c : Value) (F G : Prop) : Prop := ∃ b, PySem.W.exmOne K cls c = some b ∧ (b = true → F) ∧ (b = false → G)
theorem qEx_yes {K : PySem.W.Frag} {cls c : Value} {F G : Prop} (h : PySem.W.exmOne K cls c = some true) : qEx K cls c F G ↔ F := by
  unfold qEx
  rw [h]
  constructor
  · rintro ⟨b, h1, h2, _⟩
    exact h2 (Option.some.inj h1).symm
  · exact fun f => ⟨true, rfl, fun _ => f, nofun⟩
def qTry (K : PySem.W.Frag) (c : Value) (i : Nat) (pb : PTS) (psu : Addr → Value → PTS) : PTS := fun P ρ => pb { P with ex := fun cls ρ1 => qEx K cls c (∀ a, psu a cls { nx := fun ρ2 => P.nx (ρ2.set i .un), rt := P.rt, bk := fun ρ2 => P.bk (ρ2.set i .un), ct := fun ρ2 => P.ct (ρ2.set i .un), ex := fun _ _ => False } (ρ1.set i (.exc a cls))) (P.ex cls ρ1) } ρ
theorem js_try {x n : Str} {cv : Value} (i : Nat) {suite : List Stmt} {b₀ : Stmt} {np pos' : Pos} {psu : Addr → Value → PTS} (hs : X.stack = X.env :: X.outer) (hf : X.env.frame = some X.env.locals) (hN : X.N.Nodup) (hc : Names X x cv)
    (hb : ∀ (pn : List (Addr × Obj)) (xe : Value → Shared → Prop), JSs S (X.tr pn xe) body ps)
    (hsu : ∀ (a : Addr) (oe : Obj) (cls : Value) (pn : List (Addr × Obj)), L2N.Zn cls none oe → (∃ vs, oe.data = .fields vs) → JSs S (X.suite a ((a, oe) :: pn)) (b₀ :: suite) (psu a cls))
    (hi : X.N[i]? = some n := by rfl) (hln : X.env.kindOf n = some .local := by rfl) :
    JS S X (.Try body [.ExceptHandler (some (.Name x np)) (some n) (b₀ :: suite) pos'] [] [] pos) (qTry X.K cv i ps psu) := by
  let tb : WX → TS := fun W D σ H => ∃ P B N ρ, Rel X.K S B N H σ ρ ∧ Con X.K S B W D P ∧ ps P ρ
  let tsu : Addr → Value → Option Addr → TS := fun a cls d D σ H => d = none ∧ ∃ P B N ρ, Rel X.K S B N H σ ρ ∧ Con X.K S B (fun _ _ _ _ => False) D P ∧ psu a cls P ρ
  refine ⟨fun W D σ H => tb (wAs X.K cv i tsu W D) D σ H, fun W tk o => L2N.ps_try_as (ts := tsu) (tb := tb) hs hf hN hi hln hc tk (fun W' pn xe tk' o' => ?_) (fun a oe cls d pn hz hv => ?_), fun W D P B N H σ ρ R C q => ?_⟩
  · obtain ⟨t, t1, t2⟩ := hb pn xe
    exact pss_imp (t1 W' tk' o') fun D σ H ⟨P, B, N, ρ, R, C, q⟩ => t2 W' D P B N H σ ρ R C q
  · by_cases hd : d = none
    · subst hd
      obtain ⟨t, t1, t2⟩ := hsu a oe cls pn hz hv
      exact pss_imp (t1 (fun _ _ _ _ => False) taken0 PassesOwn.never) fun D σ H ⟨_, P, B, N, ρ, R, C, q⟩ => t2 _ D P B N H σ ρ R C q
    · exact pss_imp (t := tNever) pss_never fun D σ H z => absurd z.1 hd
  · refine ⟨{ P with ex := fun cls ρ1 => qEx X.K cls cv (∀ a, psu a cls { nx := fun ρ2 => P.nx (ρ2.set i .un), rt := P.rt, bk := fun ρ2 => P.bk (ρ2.set i .un), ct := fun ρ2 => P.ct (ρ2.set i .un), ex := fun _ _ => False } (ρ1.set i (.exc a cls))) (P.ex cls ρ1) },
      B, N, ρ, R, ⟨C.nx, C.rt, C.bk, C.ct, fun cls N1 H1 σ1 ρ1 R1 q1 => ?_⟩, q⟩
    obtain ⟨b, g1, g2, g3⟩ := q1
    refine ⟨b, g1, fun hb a na => ⟨rfl, { nx := fun ρ2 => P.nx (ρ2.set i .un), rt := P.rt, bk := fun ρ2 => P.bk (ρ2.set i .un), ct := fun ρ2 => P.ct (ρ2.set i .un), ex := fun _ _ => False }, B, N1, _, R1.set (x := some (.ref a)) (s := .exc a cls) rfl (fun m => by cases m), ⟨fun N2 H2 σ2 ρ2 R2 q2 => C.nx N2 H2 _ _ R2.setU q2, C.rt, fun N2 H2 σ2 ρ2 R2 q2 => C.bk N2 H2 _ _ R2.setU q2, fun N2 H2 σ2 ρ2 R2 q2 => C.ct N2 H2 _ _ R2.setU q2, fun _ _ _ _ _ _ z => z.elim⟩, g2 hb a⟩, fun hb => C.ex cls N1 H1 σ1 ρ1 R1 (g3 hb)⟩
/-- the exception that is looked at: an object that the context holds fast -/
theorem call_isX {X : Cx} {a D : Addr} {oe : Obj} (C : ExcC X.K D) (hz : Zc (.ref D) none oe) (hf : ∃ vs, oe.data = .fields vs) (hp : (a, oe) ∈ X.pn) : CallR X (.builtin "isinstance") (rIsE X.K D a) := by
  intro pins s σ H xs us Q inv vals hh
  obtain ⟨c, cv, b, rfl, rel, kit, q⟩ := hh
  match us, vals with
  | [_, _], .cons r0 (.cons r1 .nil) =>
    cases r0
    have same := rel _ r1
    subst same
    have there := (inv.pin (a, oe) (List.mem_append_left _ hp)).1
    obtain ⟨fs, isF⟩ := hf
    have inst : PySem.W.InstAt s.heap a oe D none := by
      rcases oe with ⟨k1, k2, k3, k4⟩
      rcases hz with ⟨z1, z2⟩
      simp only at z1 z2 isF
      subst z1 z2 isF
      exact ⟨there, rfl, rfl, trivial⟩
    exact PySem.W.kia_one (PySem.W.handS_kitx_exc C.hg C.hk C.hs C.hd C.ha C.hn C.ht C.hm) inv.kIn inst kit (fun no => nomatch no) fun tok => ⟨.bl b, H, inv.kept (t' := tok) fun _ _ same => same, rfl, q⟩
/-- isinstance(e, C), e the exception of the suite -/
def pIsE (K : PySem.W.Frag) (i : Nat) (a C : Addr) (cls : Value) : PTE := fun _ ρ Q => ∃ D b, cls = .ref D ∧ ExcC K D ∧ PySem.W.kitOne K (.ref D) (.ref C) = some b ∧ ρ[i]? = some (.exc a cls) ∧ Q (.bool b) ρ
theorem je_isE {a₀ C : Addr} {oe : Obj} {cls : Value} {n y : Str} {p py px : Pos} (i : Nat) (hz : L2N.Zn cls none oe) (hv : ∃ vs, oe.data = .fields vs) (hp : (a₀, oe) ∈ X.pn) (hg : Gl X "isinstance") (hm : X.mg "isinstance" = none) (hgy : Gl X y) (hmy : X.mg y = some (.ref C))
    (hN : X.N[i]? = some n := by rfl) (hvis : Vis X.env.scope n := by first | exact Or.inl rfl | exact Or.inr (Or.inl rfl) | exact Or.inr (Or.inr rfl)) (hd : (n == ("__debug__" : Str)) = false := by decide)
    (hcd : (n == ("__classdict__" : Str)) = false := by decide) (hdb : (y == ("__debug__" : Str)) = false := by decide)
    (hs1 : starEach [.Name n px, .Name y py] X.env = (false, eval (.Name n px) X.env) :: starEach [.Name y py] X.env := by rfl) (hs2 : starEach [.Name y py] X.env = (false, eval (.Name y py) X.env) :: starEach [] X.env := by rfl) (hpl : (backTo pos (starEach [.Name y py] X.env)).any (·.1) = false := by rfl) :
    JE S X (.Call (.Name "isinstance" p) [.Name n px, .Name y py] [] pos) (pIsE X.K i a₀ C cls) := by
  have hcall : CallR X (.builtin "isinstance") (fun xs H Q => ∃ D, cls = .ref D ∧ ExcC X.K D ∧ rIsE X.K D a₀ xs H Q) := by
    intro pins s σ H xs us Q I r h
    obtain ⟨D, hcl, hC, h⟩ := h
    subst hcl
    exact call_isX hC hz.zc hv hp pins s σ H xs us Q I r h
  refine ⟨fun W => tCB _ (tCons (tVar i) (tCons (tC (.ref C)) tNil)), fun W k => pe_callB hcall hg hm PyProof.Rows.boot_isinstance (pa_cons (pv i hN hvis hd hcd) (pa_cons (pe_glob hgy hmy rfl hdb) pa_nil hs2) hs1) (by decide) (by decide) hs1 hpl, fun W wp B N H σ ρ Q Q' R hw q k => ?_⟩
  obtain ⟨D, b, h1, h2, h3, h4, q⟩ := q
  obtain ⟨x, ex, hx⟩ := R.ok i _ h4
  have hx' : x = some (.ref a₀) := hx
  subst hx'
  exact ⟨.ref a₀, ex, D, h1, h2, .ref C, .ref C, b, rfl, fun u hu => hu, h3, k N H _ _ ρ R (Ex.refl _) (.bl b) q⟩
/-- isinstance(e, T), T a class of Python's own -/
def pIsB (K : PySem.W.Frag) (i : Nat) (a : Addr) (T : String) (cls : Value) : PTE := fun _ ρ Q => ∃ D b, cls = .ref D ∧ ExcC K D ∧ PySem.W.kitOne K (.ref D) (.type T) = some b ∧ ρ[i]? = some (.exc a cls) ∧ Q (.bool b) ρ
end
end PD

set_option Elab.async false
set_option linter.all false
set_option maxRecDepth 100000
set_option maxHeartbeats 2000000
/-! A generator expression whose element may call: its frame, its run, who draws on it. -/
namespace HGx
open PySem PySem.Spec PyProof.Rows L2 GxR GenW

abbrev gxe (elt tg iter : Expr) (ifs : List Expr) (scope : Scope) (pos : Pos) : Expr := .GeneratorExp elt [⟨tg, iter, ifs, 0⟩] scope pos
theorem over_comp {A : Around} {elt tg iter : Expr} {ifs : List Expr} {scope : Scope} {pos : Pos} {it acc : Value} {env : Env} : A.over (.compLoop (gxe elt tg iter ifs scope pos) 0 it acc env) [] = A.deeper env := by
  first
    | rfl
    | (obtain ⟨hd, d, fr, gs, u⟩ := A; simp [Around.over, Around.deeper, marksOver, frameCount, unitsOf, envsOf, guardsOf, pushEnvs, pushGuards, Code.envs, Code.env?, Code.isFrame, Code.guards, Code.isGuard, Code.weight, Code.frames, Code.isCreation, Code.isCaller, Code.cUnits])
theorem over_start {A : Around} {elt tg iter : Expr} {ifs : List Expr} {scope : Scope} {pos : Pos} {it acc : Value} {env : Env} : A.over (.compStart (gxe elt tg iter ifs scope pos) 0 it acc env) [] = A.deeper env := by
  first
    | rfl
    | (obtain ⟨hd, d, fr, gs, u⟩ := A; simp [Around.over, Around.deeper, marksOver, frameCount, unitsOf, envsOf, guardsOf, pushEnvs, pushGuards, Code.envs, Code.env?, Code.isFrame, Code.guards, Code.isGuard, Code.weight, Code.frames, Code.isCreation, Code.isCaller, Code.cUnits])

/-- the context of a generator expression's frame; A: around the one who draws -/
abbrev _root_.L2.Cx.gx (X : Cx) (A : Around) (s : Shared) (H : Hp) (cenv : Env) (fp : List Addr) : Cx :=
  { X with A := A.deeper cenv, s_0 := s, H_0 := H, env := cenv, outer := X.stack, stack := cenv :: X.stack, ex := fp, fn := fun _ => false, calm := true, pn := [], xe := fun _ _ => False }
section
variable {X : Cx} {pins : List (Addr × Obj)} {σ : L2.St} {H : Hp} {s : Shared}
theorem gx_start {scope : Scope} {own : List (Str × Nat)} {fp : List Addr} {A : Around} {code : Value} {h1 : Heap} {m : Str → Option Value} {g' : Array GenState} {t' : Nat} (I : Inv X pins σ H s) (ok : BlkOk X.N X.env.scope scope own) (hN : X.N.Nodup) (hcell : ∀ y ∈ scope.names, y.2 ≠ .cell)
    (hfp : ∀ b ∈ fp, FpOk X pins H b ∧ b < s.heap.objs.size) (hA : A.handled = none) (hfr : A.frames = some X.stack) (hn : h1.Ns s.heap.objs.size m) (kp : ∀ b o, s.heap.get? b = some o → h1.get? b = some o) (hg : AllBare g') :
    Inv (X.gx A s H (genEnv scope (cloFrom X.env.cells scope.names []) s.heap.objs.size code builtinsNs X.env) fp) [] (wipe σ (own.map (·.2))) H { s with heap := h1, gens := g', toks := t' } := by
  have hfree : ∀ y ∈ scope.names, y.2 = .free → ∃ c, X.env.cells.lookup y.1 = some c := fun y hy e => by
    rcases ok.free y hy e with k | k
    · exact I.ok.has _ (.inl k)
    · exact I.ok.has _ (.inr k)
  generalize hcenv : genEnv scope (cloFrom X.env.cells scope.names []) s.heap.objs.size code builtinsNs X.env = cenv
  have hL : cenv.locals = s.heap.objs.size := by rw [← hcenv]; rfl
  have hcl : cenv.cells = cloFrom X.env.cells scope.names [] := by rw [← hcenv]; rfl
  have hsc : cenv.scope = scope := by rw [← hcenv]; rfl
  have cm : ∀ {y c}, (y, c) ∈ cloFrom X.env.cells scope.names [] → X.env.cells.lookup y = some c ∧ c < s.heap.objs.size := fun {y c} hm => by
    rcases cloFrom_mem hm with hm | ⟨h1, rfl⟩
    · cases hm
    · obtain ⟨c, hc⟩ := hfree _ h1 rfl
      rw [hc]
      obtain ⟨w, z⟩ := I.cell _ _ hc
      exact ⟨rfl, z.lt⟩
  have mem : ∀ {y c}, cenv.cells.lookup y = some c → (X.env.cells.lookup y = some c ∧ c < s.heap.objs.size) := fun {y c} e => by
    rw [hcl] at e
    exact cm (PySem.mem_of_lookup e)
  have look : ∀ {y}, scope.names.lookup y = some .free → ∃ c, cenv.cells.lookup y = some c ∧ X.env.cells.lookup y = some c := fun {y} hl => by
    have hy : (y, NameKind.free) ∈ scope.names := PySem.mem_of_lookup hl
    obtain ⟨c', e'⟩ := mem_lookup (cloFrom_has (cells := X.env.cells) (acc := []) hy)
    rw [← hcl] at e'
    exact ⟨c', e', (mem e').1⟩
  have nocell : ∀ {y}, scope.names.lookup y ≠ some .cell := fun {y} e => hcell _ (PySem.mem_of_lookup e) rfl
  have okB : (X.gx A s H cenv fp).Ok := by
    refine ⟨I.ok.mod, by show cenv.scope.kind = _; rw [hsc]; exact ok.kind, by show cenv.globals = _; rw [← hcenv]; exact I.ok.glob, by show cenv.builtins = _; rw [← hcenv]; rfl, by show s.heap.objs.size ≤ cenv.locals; rw [hL]; exact Nat.le_refl _,
      fun y z c e1 e2 => ?_, fun y hy => ?_, fun y c z e => ?_, fun _ => hA, ?_, .inr ⟨rfl, ?_⟩, fun b hb => ⟨?_, fun y c e z => ?_⟩, I.bs, Nat.le_trans I.ok.bsz I.sz, fun b o e hb => ?_, fun b hb z => ?_, I.stack, I.stkFree⟩
    · exact I.ok.inj y z c (mem e1).1 (mem e2).1
    · show ∃ c, cenv.cells.lookup y = some c
      rcases hy with hy | hy
      · have hy : cenv.scope.names.lookup y = some .cell := hy
        rw [hsc] at hy
        exact (nocell hy).elim
      · have hy : cenv.scope.names.lookup y = some .free := hy
        rw [hsc] at hy
        obtain ⟨c, h1, _⟩ := look hy
        exact ⟨c, h1⟩
    · cases (show false = true from z)
    · show (A.deeper cenv).frames = some (cenv :: X.stack)
      exact Around.frames_deeper hfr
    · show cenv.frame = some cenv.locals
      rw [← hcenv]; rfl
    · show b ≠ cenv.locals
      rw [hL]; exact Nat.ne_of_lt (hfp b hb).2
    · exact (hfp b hb).1.2.2.2.2.1 y c (mem e).1 z
    · rcases (hfp b hb).1.2.2.2.1 with z | z
      · exact I.ok.noex b o e z
      · exact absurd (Nat.lt_of_lt_of_le (Heap.lt_size e) (Nat.le_trans I.ok.bsz z)) (Nat.lt_irrefl _)
    · rcases List.mem_cons.mp (I.stkSub b z) with z | z
      · exact (hfp b hb).1.2.1 z
      · exact (hfp b hb).1.2.2.1 z
  refine ⟨okB, rfl, hg, Un.kept kp, ⟨m, ?_, fun i y av e1 e2 e3 => ?_⟩, fun y c e => ?_, ?_, fun y c e => ?_, fun p hp => ?_, I.hok.kept kp, by rw [wipe_length]; exact I.len⟩
  · show Heap.Ns _ cenv.locals _
    rw [hL]
    exact hn
  · obtain ⟨e2, hne⟩ := wipe_some e2
    have hfr : scope.names.lookup y = some .free := by
      have e3 : Vis cenv.scope y := e3
      rw [hsc] at e3
      rcases e3 with e3 | e3 | e3
      · rcases ok.own _ (PySem.mem_of_lookup e3) (.inl rfl) with e' | e'
        · obtain ⟨p, hp, hpy⟩ := List.mem_map.mp e'
          have e4 := ok.ix p hp
          have : p.1 = y := hpy
          rw [this] at e4
          exact absurd (List.mem_map.mpr ⟨p, hp, nodup_ix hN e4 e1⟩) hne
        · exact absurd (List.mem_of_getElem? e1) e'
      · exact (nocell e3).elim
      · exact e3
    obtain ⟨m', hn', hl⟩ := I.loc
    have hvis : Vis X.env.scope y := (ok.free _ (PySem.mem_of_lookup hfr) rfl).elim (fun k => .inr (.inl k)) (fun k => .inr (.inr k))
    obtain ⟨w, r, q⟩ := hl i y av e1 e2 hvis
    refine ⟨w, r, .inr ⟨.inr (by show cenv.scope.names.lookup y = _; rw [hsc]; exact hfr), ?_⟩⟩
    obtain ⟨c, h1, h2⟩ := look hfr
    rcases q with ⟨k, _⟩ | ⟨_, c', e', z⟩
    · have k : X.env.scope.names.lookup y = some .local := k
      rcases ok.free _ (PySem.mem_of_lookup hfr) rfl with k' | k' <;> rw [show X.env.scope.names.lookup y = _ from k'] at k <;> cases k
    · rw [h2] at e'; cases e'
      exact ⟨c, h1, z.keeps kp⟩
  · obtain ⟨w, z⟩ := I.cell y c (mem e).1
    exact ⟨w, z.keeps kp⟩
  · show H cenv.locals = none
    rw [hL]; exact I.hok.fresh (Nat.le_refl _)
  · exact I.freeC y c (mem e).1
  · exact absurd (show p ∈ ([] : List (Addr × Obj)) ++ [] from hp) (by simp)
end

/-! ### the run -/
/-- the reading of a generator expression's run: n: how many are still to come; Yd n y H: y comes, n are left; Go n: it will be asked again -/
def Turns (J : It) (g : TG) (tt : TT) (te : TE) (vs : List Nat) (σ : L2.St) (Yd : Nat → V → Hp → Prop) (Go : Nat → Prop) (Fin : Hp → Prop) (W : Nat → Nat → Nat → Hp → Prop) : Prop := ∀ i m n H, W i m n H →
  (J.stop i H ∧ n = 0 ∧ Fin H) ∨ (J.go i H ∧ ∃ Nx : Nat → Hp → Prop, (∀ n' H', Nx n' H' → ∃ m', m' < m ∧ W (i + 1) m' n' H') ∧ ∀ x H', J.yld i H x H' → g x (wipe σ vs) H' fun σ2 H2 => wipe σ2 vs = wipe σ vs ∧ tt σ2 H2 fun b H3 =>
    if b = true then te σ2 H3 fun y H4 => ∃ n', n = n' + 1 ∧ Yd n' y H4 ∧ (Go n' → Nx n' H4) else Nx n H3)
/-- the objects of the one who draws -/
abbrev Cps := List (Addr × Obj)
def Holds (cp : Cps) (h : Heap) : Prop := ∀ p ∈ cp, h.get? p.1 = some p.2
/-- woken again: the drawer's objects may have changed -/
structure Woke (cp cp' : Cps) (s s' : Shared) : Prop where
  os : s'.os = s.os
  bare : AllBare s'.gens
  keep : ∀ b o, b ∉ cp.map (·.1) → s.heap.get? b = some o → s'.heap.get? b = some o
  ad : cp'.map (·.1) = cp.map (·.1)
  holds : Holds cp' s'.heap
  nocell : ∀ p ∈ cp', ∀ v, p.2.data ≠ .cell v
def GY (G : Cx) (ws : List Addr) (Yd : Nat → V → Hp → Prop) (Go : Nat → Prop) : Protocol := fun n s₀ v s kap =>
  ∃ y σ H cp, cp.map (·.1) = ws ∧ Holds cp s₀.heap ∧ RelV y v ∧ Inv G cp σ H s ∧ Yd n y H ∧ (Go n → ∀ s' cp', Woke cp cp' s s' → kap (.send .none) s')
def GR (G : Cx) (ws : List Addr) (Fin : Hp → Prop) : GenEnd := fun n s₀ r s => r = .ok .next ∧ n = 0 ∧ ∃ σ H cp, cp.map (·.1) = ws ∧ Holds cp s₀.heap ∧ Inv G cp σ H s ∧ Fin H
section
variable {G : Cx} {σ : L2.St} {H : Hp} {s s' : Shared} {cp cp' : Cps}
/-- where the drawer's objects may stand -/
def CpAt (G : Cx) (ws : List Addr) : Prop := ∀ b ∈ ws, G.s_0.heap.objs.size ≤ b ∧ b ≠ G.env.locals ∧ (∀ x c, G.env.cells.lookup x = some c → c ≠ b)
theorem inv_woke (I : Inv G cp σ H s) (hpn : G.pn = []) (ha : CpAt G (cp.map (·.1))) (w : Woke cp cp' s s') : Inv G cp' σ H s' := by
  have at_ : ∀ b ∈ cp.map (·.1), H b = none ∧ b ∉ G.fs ∧ ∃ o, s.heap.get? b = some o := fun b hb => by
    obtain ⟨p, hp, rfl⟩ := List.mem_map.mp hb
    obtain ⟨h1, h2, h3, h4, _⟩ := I.pin p (List.mem_append_right _ hp)
    exact ⟨h2, h4, p.2, h1⟩
  obtain ⟨z1, z2, z3, z4, z5, z6⟩ := w
  obtain ⟨hh, g, d, t, o⟩ := s'
  have ho : o = s.os := z1
  subst ho
  have I0 : Inv G [] σ H s := I.pins_of fun p hp => absurd hp (by simp)
  have nt : ∀ b u, H b = some u → b ∉ cp.map (·.1) := fun b u q hb => by
    rw [(at_ b hb).1] at q; cases q
  have J : Inv G [] σ H { s with heap := hh, gens := g, drawn := d, toks := t } := by
    refine I0.step (g' := g) (t' := t) (d' := d) (ch := cp.map (·.1)) (fun b hb => ⟨.inr (ha b hb).1, (ha b hb).2.1, (ha b hb).2.2, fun p hp => ?_⟩)
      (fun b ob _ _ hc q _ => z3 b ob hc q) (fun b ob _ _ hc q _ => ⟨ob.slots, z3 b ob hc q⟩) (fun _ _ _ _ n => n) (fun b ob hc q => ⟨ob, z3 b ob hc q⟩)
      (fun _ _ q => q) (fun _ _ _ q => q) (fun b ps q => ⟨#[], by rw [q]; simp⟩) (fun m hm => ?_) (fun b u q => ?_) z2
    · rw [hpn] at hp
      exact absurd hp (by simp)
    · obtain ⟨ob, es, ep, ho, r⟩ := hm
      exact ⟨ob, es, ep, z3 _ ob (fun hb => (ha _ hb).2.1 rfl) ho, r⟩
    · refine (I0.hok b u q).stay (fun c v hc y => z3 c v ?_ y) (fun _ y => y) fun _ _ y => y
      rcases hc with y | y
      · rw [y]; exact nt b u q
      · exact nt c _ y
  refine J.pins_of fun p hp => ?_
  have hb : p.1 ∈ cp.map (·.1) := by rw [← z4]; exact List.mem_map.mpr ⟨p, hp, rfl⟩
  exact ⟨z5 p hp, (at_ _ hb).1, (ha _ hb).2.1, (at_ _ hb).2.1, z6 p hp⟩

variable {elt tg iter : Expr} {ifs : List Expr} {scope : Scope} {pos : Pos} {it : Addr} {fp : List Addr} {tn : Nat → Heap → Prop} {J : It} {g : TG} {tt : TT} {te : TE} {vs : List Nat} {σ₀ : L2.St} {Yd : Nat → V → Hp → Prop} {Go : Nat → Prop} {Fin : Hp → Prop} {W : Nat → Nat → Nat → Hp → Prop} {A : Around} {ws : List Addr}
theorem seg_loop (hA : G.A = A.deeper G.env) (hpn : G.pn = []) (hcalm : G.calm = true) (hco : G.env.scope.isCoroutine = false) (hex : ∀ b ∈ fp, b ∈ G.ex ∧ b ∉ ws) (hws : CpAt G ws) (T : Turn G.prog G.w G.K tg J fp it tn)
    (pg : PG G tg g) (pt : PTs G ifs tt) (pe : PE G elt te) (turn : Turns J g tt te vs σ₀ Yd Go Fin W) (hxe : G.xe = fun _ _ => False) :
    ∀ (m i n N : Nat) (s₀ s : Shared) (H : Hp) (cp : Cps), n ≤ N → N = n → cp.map (·.1) = ws → Holds cp s₀.heap → Inv G cp (wipe σ₀ vs) H s → tn i s.heap → (∀ b ∈ fp, H b = none) → W i m n H →
      Seg (model G.prog G.w) A (GR G ws Fin) (GY G ws Yd Go) N s₀ (.compLoop (gxe elt tg iter ifs scope pos) 0 (.ref it) .none G.env)
        ((model G.prog G.w).den (.compLoop (gxe elt tg iter ifs scope pos) 0 (.ref it) .none G.env)) [] s := by
  have stat : ∀ {σ' : L2.St} {H' : Hp} {s' : Shared} {cp' : Cps}, cp'.map (·.1) = ws → Inv G cp' σ' H' s' → (∀ b ∈ fp, H' b = none) → ∀ b ∈ fp, FpOk G cp' H' b := fun {σ' H' s' cp'} hc I' hn b hb =>
    ⟨hn b hb, (I'.ok.exf b (hex b hb).1).1, I'.ok.exfs b (hex b hb).1, .inl (hex b hb).1, fun x c e => (I'.ok.exf b (hex b hb).1).2 x c e, fun p hp z => by
      rw [hpn, List.nil_append] at hp
      have : p.1 ∈ ws := by rw [← hc]; exact List.mem_map.mpr ⟨p, hp, rfl⟩
      rw [z] at this
      exact (hex b hb).2 this⟩
  intro m
  induction m using Nat.strongRecOn with
  | ind m ih =>
    intro i n N s₀ s H cp _ hNn hcp hh0 I st nfp w0
    subst hNn
    show Seg _ A _ _ _ s₀ _ ((compTurn (gxe elt tg iter ifs scope pos) 0 (.ref it) .none G.env).onRaise (leaving G.env)) [] s
    rw [compTurn_gen, Sem.onRaise_eq_wrap]
    refine seg_bind_wrap (wpAny_standAt ?_)
    rcases turn i m _ H w0 with ⟨stop, hn0, hF⟩ | ⟨go, Nx, hNx, step⟩
    · have td := T.done G rfl rfl rfl hcalm i cp s _ H (fun _ _ => False) I (stat hcp I nfp) st stop
      rw [hA] at td
      refine seg_bind_wrap ?_
      rw [over_comp]
      refine wpAny_mono td (fun r s6 ⟨hr, I6⟩ => ?_) fun _ _ z => z.elim
      subst hr
      exact seg_end (.ok .next) ⟨rfl, hn0, _, H, cp, hcp, hh0, I6, hF⟩
    · have ti := T.item G rfl rfl rfl hcalm i cp s _ H (fun _ _ => False) I (stat hcp I nfp) st go
      rw [hA] at ti
      refine seg_bind_wrap ?_
      rw [over_comp]
      refine wpAny_mono ti (fun r s6 ⟨u, hr, h6⟩ => ?_) fun _ _ z => z.elim
      subst hr
      refine seg_bind_wrap ?_
      rw [over_comp]
      refine wpAny_mono h6 (fun _ s7 ⟨x, H7, I7, r7, y7, st7, n7⟩ => ?_) fun _ _ z => z.elim
      have I7' := I7.pinned (stat hcp I7 n7) (T.obj _ _ st7)
      have g7 := pg.run _ s7 _ H7 x u _ I7' r7 (step x H7 y7)
      rw [hA, hxe] at g7
      refine seg_bind_wrap ?_
      rw [over_comp]
      refine wpAny_mono g7 (fun _ s8 ⟨σ8, H8, I8, hw8, q8⟩ => ?_) fun _ _ z => z.elim
      have g8 := pt.run _ s8 σ8 H8 _ I8 q8
      rw [hA, hxe] at g8
      refine seg_bind_wrap ?_
      rw [over_comp]
      refine wpAny_mono g8 (fun b s9 ⟨H9, I9, q9⟩ => ?_) fun _ _ z => z.elim
      have keepfp : ∀ {s' : Shared} {σ' : L2.St} {H' : Hp}, Inv G (cp ++ pinsAt fp s7.heap) σ' H' s' → ∀ b ∈ fp, ∀ o, s7.heap.get? b = some o → s'.heap.get? b = some o ∧ H' b = none := fun {s' σ' H'} I' b hb o e =>
        let z := I'.pin (b, o) (List.mem_append_right _ (List.mem_append_right _ (mem_pinsAt hb e)))
        ⟨z.1, z.2.1⟩
      have hl : ∀ {s' : Shared} {σ' : L2.St} {H' : Hp} {pp : Cps}, wipe σ' vs = wipe σ₀ vs → Inv G pp σ' H' s' → Inv G pp (wipe σ₀ vs) H' s' := fun {s' σ' H' pp} hw I' =>
        I'.weak (by rw [← hw, wipe_length]) fun j v e => by
          rw [← hw] at e
          exact (wipe_some e).1
      cases b with
      | false =>
        simp only [Bool.false_eq_true, if_false] at q9 ⊢
        obtain ⟨m', hm, w'⟩ := hNx _ _ q9
        refine seg_again rfl (ih m' hm (i + 1) _ _ s₀ s9 H9 cp (Nat.le_refl _) rfl hcp hh0 (hl hw8 I9.unpinned) (T.keep _ _ _ st7 fun b hb o e => (keepfp I9 b hb o e).1) (fun b hb => ?_) w')
        obtain ⟨o, e, _⟩ := T.obj _ _ st7 b hb
        exact (keepfp I9 b hb o e).2
      | true =>
        simp only [if_true] at q9 ⊢
        have hy : ∀ v, yieldOut G.env v = yieldValue v := fun v => by simp only [yieldOut, hco, Bool.false_eq_true, if_false]
        simp only [hy]
        rw [Sem.bind_eq_wrap', Sem.bind_eq_wrap', Sem.wrap_wrap, Sem.wrap_wrap]
        have g9 := pe.run _ s9 σ8 H9 _ I9 q9
        rw [hA, hxe] at g9
        refine seg_wrap ?_
        rw [over_comp]
        refine wpAny_mono g9 (fun z s10 ⟨yv, H10, I10, r10, n', hn', hyd, hgo⟩ => ?_) fun _ _ z => z.elim
        subst hn'
        refine seg_at (seg_yield rfl rfl rfl ⟨yv, σ8, H10, cp, hcp, hh0, r10, I10.unpinned, hyd, fun hg s' cp' wk => ?_⟩)
        obtain ⟨m', hm, w'⟩ := hNx _ _ (hgo hg)
        have hcp' : cp'.map (·.1) = ws := by rw [wk.ad]; exact hcp
        have I11 := inv_woke (I10.unpinned (pins := cp)) hpn (by rw [hcp]; exact hws) wk
        have nws : ∀ b ∈ fp, b ∉ cp.map (·.1) := fun b hb => by rw [hcp]; exact (hex b hb).2
        refine seg_again rfl (ih m' hm (i + 1) n' n' s' s' H10 cp' (Nat.le_refl _) rfl hcp' wk.holds (hl hw8 I11) (T.keep _ _ _ st7 fun b hb o e => wk.keep b o (nws b hb) (keepfp I10 b hb o e).1) (fun b hb => ?_) w')
        obtain ⟨o, e, _⟩ := T.obj _ _ st7 b hb
        exact (keepfp I10 b hb o e).2
theorem seg_start (hA : G.A = A.deeper G.env) (hpn : G.pn = []) (hcalm : G.calm = true) (hco : G.env.scope.isCoroutine = false) (hex : ∀ b ∈ fp, b ∈ G.ex ∧ b ∉ ws) (hws : CpAt G ws) (T : Turn G.prog G.w G.K tg J fp it tn)
    (pg : PG G tg g) (pt : PTs G ifs tt) (pe : PE G elt te) (turn : Turns J g tt te vs σ₀ Yd Go Fin W) (hxe : G.xe = fun _ _ => False) {m n : Nat} {s₀ s : Shared} {H : Hp} {cp : Cps} (hcp : cp.map (·.1) = ws) (hh0 : Holds cp s₀.heap)
    (I : Inv G cp (wipe σ₀ vs) H s) (st : tn 0 s.heap) (nfp : ∀ b ∈ fp, H b = none) (w0 : W 0 m n H) :
      Seg (model G.prog G.w) A (GR G ws Fin) (GY G ws Yd Go) n s₀ (.compStart (gxe elt tg iter ifs scope pos) 0 (.ref it) .none G.env)
        ((model G.prog G.w).den (.compStart (gxe elt tg iter ifs scope pos) 0 (.ref it) .none G.env)) [] s := by
  have loop := seg_loop (iter := iter) (scope := scope) (pos := pos) hA hpn hcalm hco hex hws T pg pt pe turn hxe m 0 n n s₀ s H cp (Nat.le_refl _) rfl hcp hh0 I st nfp w0
  show Seg _ A _ _ _ s₀ _ ((compStart (gxe elt tg iter ifs scope pos) 0 (.ref it) .none G.env).onRaise (leaving G.env)) [] s
  unfold compStart
  rw [Sem.onRaise_eq_wrap]
  show Seg _ A _ _ _ s₀ _ ((ask >>= _).wrap _ _ _ _) [] s
  refine seg_bind_wrap (wpAny_askSetting ?_)
  split
  · exact seg_again rfl loop
  · first
      | exact seg_bind_wrap (wpAny_rule (seg_bind_wrap (wpAny_standAt (seg_bind_wrap (T.self _ 0 s _ _ st (seg_again rfl loop))))))
      | (refine seg_bind_wrap (wpAny_rule ?_); show Seg _ A _ _ _ s₀ _ ((standAt iter.pos >>= _).wrap _ _ _ _) [] s; exact seg_bind_wrap (wpAny_standAt (seg_bind_wrap (T.self _ 0 s _ _ st (seg_again rfl loop)))))
end
end HGx

set_option Elab.async false
set_option linter.all false
set_option maxRecDepth 100000
set_option maxHeartbeats 2000000
/-! Who draws on a generator expression: all, any, sum. -/
namespace HGx
open PySem PySem.Spec PyProof.Rows L2 GxR GenW

theorem Woke.refl {cp : Cps} {s : Shared} (hb : AllBare s.gens) (h : Holds cp s.heap) (n : ∀ p ∈ cp, ∀ v, p.2.data ≠ .cell v) : Woke cp cp s s := ⟨rfl, hb, fun _ _ _ e => e, rfl, h, n⟩
theorem Woke.trans {cp cp1 cp2 : Cps} {s s1 s2 : Shared} (a : Woke cp cp1 s s1) (b : Woke cp1 cp2 s1 s2) : Woke cp cp2 s s2 :=
  ⟨b.os.trans a.os, b.bare, fun x o hx e => b.keep x o (by rw [a.ad]; exact hx) (a.keep x o hx e), b.ad.trans a.ad, b.holds, b.nocell⟩
theorem cps_eq : ∀ {cp cp' : Cps} {h : Heap}, cp.map (·.1) = cp'.map (·.1) → Holds cp h → Holds cp' h → cp = cp'
  | [], [], _, _, _, _ => rfl
  | p :: cp, q :: cp', h, e, h1, h2 => by
    rw [List.map_cons, List.map_cons, List.cons.injEq] at e
    have e1 := h1 p List.mem_cons_self
    have e2 := h2 q List.mem_cons_self
    rw [e.1] at e1
    rw [e1] at e2
    have : p = q := Prod.ext e.1 (Option.some.inj e2)
    rw [this, cps_eq e.2 (fun x hx => h1 x (List.mem_cons_of_mem _ hx)) (fun x hx => h2 x (List.mem_cons_of_mem _ hx))]
  | [], _ :: _, _, e, _, _ => by simp at e
  | _ :: _, [], _, e, _, _ => by simp at e

/-- a generator that waits to be asked -/
structure Asl (G : Cx) (A : Around) (a : Addr) (gi : Nat) (Yd : Nat → V → Hp → Prop) (Go : Nat → Prop) (Fin : Hp → Prop) (n : Nat) (cp : Cps) (s : Shared) : Prop where
  gen : s.heap.IsGen a gi
  mem : a ∈ cp.map (·.1)
  lim : s.heap.NoLimit
  lims : cStatics ∉ cp.map (·.1)
  holds : Holds cp s.heap
  nocell : ∀ p ∈ cp, ∀ v, p.2.data ≠ .cell v
  bare : AllBare s.gens
  go : Go n
  pn : G.pn = []
  ats : CpAt G (cp.map (·.1))
  st : ∃ gs, s.gens[gi]? = some gs ∧ ∀ s' cp', Woke cp cp' s s' → gs.Goes (model G.prog G.w) A (GR G (cp.map (·.1)) Fin) (GY G (cp.map (·.1)) Yd Go) n (.send .none) s'
section
variable {G : Cx} {A : Around} {a : Addr} {gi n : Nat} {Yd : Nat → V → Hp → Prop} {Go : Nat → Prop} {Fin : Hp → Prop} {cp cp' : Cps} {s s' : Shared}
theorem Asl.move (h : Asl G A a gi Yd Go Fin n cp s) (w : Woke cp cp' s s') (hg : s'.gens = s.gens) (ha : ∀ o, (a, o) ∈ cp → (a, o) ∈ cp') : Asl G A a gi Yd Go Fin n cp' s' where
  gen := by
    obtain ⟨p, hp, e⟩ := List.mem_map.mp h.mem
    obtain ⟨o, nm, qn, h1, r⟩ := h.gen
    have hp1 := h.holds p hp
    rw [e, h1] at hp1
    have : p = (a, o) := Prod.ext e (Option.some.inj hp1).symm
    rw [this] at hp
    exact ⟨o, nm, qn, w.holds _ (ha o hp), r⟩
  mem := by rw [w.ad]; exact h.mem
  lim := let ⟨mc, hns, hnn⟩ := h.lim; ⟨mc, hns.at' fun o e => w.keep cStatics o h.lims e, hnn⟩
  lims := by rw [w.ad]; exact h.lims
  holds := w.holds
  nocell := w.nocell
  bare := w.bare
  go := h.go
  pn := h.pn
  ats := by rw [w.ad]; exact h.ats
  st := by
    obtain ⟨gs, h1, h2⟩ := h.st
    refine ⟨gs, by rw [hg]; exact h1, fun s2 cp2 w2 => ?_⟩
    rw [w.ad]
    exact h2 s2 cp2 (w.trans w2)
theorem Inv.grown {X : Cx} {pins : Cps} {σ : L2.St} {H : Hp} {s s' : Shared} (I : Inv X pins σ H s) (k : ∀ b o, s.heap.get? b = some o → s'.heap.get? b = some o) (ho : s'.os = s.os) (hg : AllBare s'.gens) : Inv X pins σ H s' := by
  obtain ⟨h', g', d', t', o'⟩ := s'
  have e : o' = s.os := ho
  subst e
  refine I.step (g' := g') (t' := t') (d' := d') (ch := []) (fun b hb => absurd hb (by simp)) (fun b o _ _ _ e _ => k b o e) (fun b o _ _ _ e _ => ⟨o.slots, k b o e⟩) (fun _ _ _ _ n => n) (fun b o _ e => ⟨o, k b o e⟩)
    (fun _ _ e => e) (fun _ _ _ e => e) (fun b ps e => ⟨#[], by rw [e]; simp⟩) (fun m hm => ?_) (fun b u e => ?_) hg
  · obtain ⟨ob, es, ep, ho, r⟩ := hm
    exact ⟨ob, es, ep, k _ _ ho, r⟩
  · exact (I.hok b u e).stay (fun d v hd q => k d v q) (fun d q => q) fun d xs q => q
/-- one draw -/
theorem draw {Ad : Around} {E : Value → Shared → Prop} {Q : Option Value → Shared → Prop} (hh : Ad.handled = none) (hroom : Ad.depth < recursionLimit) (h : Asl G Ad.in1 a gi Yd Go Fin n cp s)
    (hF : n = 0 → ∀ s' σ H, Inv G cp σ H s' → Fin H → Q none s')
    (hS : ∀ m v y σ H s', n = m + 1 → RelV y v → Inv G cp σ H s' → Yd m y H → (Go m → Asl G Ad.in1 a gi Yd Go Fin m cp s') → Q (some v) s') : wpAny (model G.prog G.w) Ad (pyNext (.ref a)) Q E s := by
  obtain ⟨gs, hgs, hgo⟩ := h.st
  have hgi : gi < s.gens.size := (Array.getElem?_eq_some_iff.mp hgs).1
  have wk : Woke cp cp s (s.setGen gi .running) := ⟨rfl, allBare_setGen h.bare rfl, fun _ _ _ e => e, rfl, h.holds, h.nocell⟩
  refine wpAny_gsz (n := gi + 1) hgi ?_
  have hgo' := hgo _ _ wk
  refine wpAny_pyNext_genexpQ (P := fun n s₀ s => n = 0 ∧ ∃ (σ : L2.St) (H : Hp) (cp' : Cps), cp'.map (·.1) = cp.map (·.1) ∧ Holds cp' s₀.heap ∧ Inv G cp' σ H s ∧ Fin H) hh h.lim hroom h.gen hgs hgo' (fun v s₁ gs' hb hv => ?_) (fun s₁ hp h' kp hsz => ?_)
  · obtain ⟨y, σ, H, cp', e1, e2, r, I, yd, kap⟩ := hv
    have ec : cp' = cp := cps_eq e1 e2 h.holds
    subst ec
    intro hsz
    rw [setGen_size] at hsz
    have hp := fun p (hp : p ∈ cp') => I.pin p (List.mem_append_right _ hp)
    have hold : Holds cp' s₁.heap := fun p q => (hp p q).1
    have wk1 : Woke cp' cp' s₁ (s₁.setGen gi gs') := ⟨rfl, allBare_setGen I.bare hb, fun _ _ _ e => e, rfl, hold, h.nocell⟩
    cases n with
    | zero => exact (kap h.go _ _ wk1).elim
    | succ m =>
      refine hS m v y σ H _ rfl r (inv_woke I h.pn h.ats wk1) yd fun hg => ?_
      have hgen : s₁.heap.IsGen a gi := by
        obtain ⟨p, q, e⟩ := List.mem_map.mp h.mem
        obtain ⟨o, nm, qn, h1, r⟩ := h.gen
        have q1 := h.holds p q
        rw [e, h1] at q1
        have : p = (a, o) := Prod.ext e (Option.some.inj q1).symm
        rw [this] at q
        exact ⟨o, nm, qn, hold _ q, r⟩
      exact ⟨hgen, h.mem, I.nolimit, h.lims, hold, h.nocell, allBare_setGen I.bare hb, hg, h.pn, h.ats, gs', setGen_at hsz, fun s' cp2 w2 => kap hg s' cp2 (wk1.trans w2)⟩
  · obtain ⟨hn, σ, H, cp', e1, e2, I, fin⟩ := hp
    have ec : cp' = cp := cps_eq e1 e2 h.holds
    subst ec
    exact hF hn _ σ H (Inv.grown I kp rfl (allBare_setGen I.bare rfl)) fin

/-! ### all, any, sum -/
variable {R : Result → Shared → Prop}
theorem all_loop (hh : A.handled = none) (hroom : A.depth < recursionLimit) {Qd : V → Hp → Prop} (hY : ∀ m y H, Yd m y H → (y = .bl true ∧ Go m) ∨ (y = .bl false ∧ Qd (.bl false) H)) (hF : ∀ H, Fin H → Qd (.bl true) H)
    (hR : ∀ v y σ H s', Inv G cp σ H s' → RelV y v → Qd y H → R (.ok (.ret v)) s') :
    ∀ (n : Nat) (s : Shared), Asl G A.in1.in1 a gi Yd Go Fin n cp s → codeAny (model G.prog G.w) A (.builtin "all.loop" ⟨[.ref a], []⟩) R s := by
  intro n
  induction n using Nat.strongRecOn with
  | ind n ih =>
    intro s h
    refine codeAny_builtin F.entry_all_loop ?_
    rw [Around.under_plainId F.plain_all_loop _]
    show wpAny _ A.in1 (pyNext (.ref a) >>= _) _ _ s
    refine wpAny_bind (draw (Ad := A.in1) hh hroom h (fun hn s' σ H I f => ?_) fun m v y σ H s' hn r I yd next => ?_)
    · exact wpAny_bind (wpAny_rule (wpAny_pure (hR _ (.bl true) σ H s' I rfl (hF H f))))
    · rcases hY m y H yd with ⟨rfl, hg⟩ | ⟨rfl, q⟩
      · cases r
        refine wpAny_bind (wpAny_holding (wpAny_truthy_bool ?_))
        refine wpAny_bind (wpAny_letGo ?_)
        simp only [if_true]
        exact wpAny_pure ⟨plainId_quiet F.plain_all_loop _, ih m (by omega) s' (next hg)⟩
      · cases r
        refine wpAny_bind (wpAny_holding (wpAny_truthy_bool ?_))
        refine wpAny_bind (wpAny_letGo ?_)
        simp only [Bool.false_eq_true, if_false]
        exact wpAny_bind (wpAny_rule (wpAny_pure (hR _ (.bl false) σ H s' I rfl q)))
theorem any_loop (hh : A.handled = none) (hroom : A.depth < recursionLimit) {Qd : V → Hp → Prop} (hY : ∀ m y H, Yd m y H → (y = .bl false ∧ Go m) ∨ (y = .bl true ∧ Qd (.bl true) H)) (hF : ∀ H, Fin H → Qd (.bl false) H)
    (hR : ∀ v y σ H s', Inv G cp σ H s' → RelV y v → Qd y H → R (.ok (.ret v)) s') :
    ∀ (n : Nat) (s : Shared), Asl G A.in1.in1 a gi Yd Go Fin n cp s → codeAny (model G.prog G.w) A (.builtin "any.loop" ⟨[.ref a], []⟩) R s := by
  intro n
  induction n using Nat.strongRecOn with
  | ind n ih =>
    intro s h
    refine codeAny_builtin F.entry_any_loop ?_
    rw [Around.under_plainId F.plain_any_loop _]
    show wpAny _ A.in1 (pyNext (.ref a) >>= _) _ _ s
    refine wpAny_bind (draw (Ad := A.in1) hh hroom h (fun hn s' σ H I f => ?_) fun m v y σ H s' hn r I yd next => ?_)
    · exact wpAny_bind (wpAny_rule (wpAny_pure (hR _ (.bl false) σ H s' I rfl (hF H f))))
    · rcases hY m y H yd with ⟨rfl, hg⟩ | ⟨rfl, q⟩
      · cases r
        refine wpAny_bind (wpAny_holding (wpAny_truthy_bool ?_))
        refine wpAny_bind (wpAny_letGo ?_)
        simp only [Bool.false_eq_true, if_false]
        exact wpAny_pure ⟨plainId_quiet F.plain_any_loop _, ih m (by omega) s' (next hg)⟩
      · cases r
        refine wpAny_bind (wpAny_holding (wpAny_truthy_bool ?_))
        refine wpAny_bind (wpAny_letGo ?_)
        simp only [if_true]
        exact wpAny_bind (wpAny_rule (wpAny_pure (hR _ (.bl true) σ H s' I rfl q)))
abbrev sumO (i : Int) (t : Tok) (c : Nat) : Obj := { cls := .type "list", dict := none, data := .seq #[.int i t] c, slots := #[] }
theorem sum_loop {go : Obj} {S : Addr} (hS : S ≠ a) (hh : A.handled = none) (hroom : A.depth < recursionLimit) {Qd : V → Hp → Prop} (acc : Nat → Int)
    (hY : ∀ m y H, Yd m y H → ∃ v, y = .int v ∧ InLong v ∧ InLong (acc (m + 1) + v) ∧ acc m = acc (m + 1) + v ∧ Go m) (hF : ∀ H, Fin H → Qd (.int (acc 0)) H)
    (hR : ∀ v y σ H s' cp, cp.map (·.1) = [a, S] → Inv G cp σ H s' → RelV y v → Qd y H → R (.ok (.ret v)) s') :
    ∀ (n : Nat) (s : Shared) (t : Tok) (c : Nat), Asl G A.in1.in1 a gi Yd Go Fin n [(a, go), (S, sumO (acc n) t c)] s → codeAny (model G.prog G.w) A (.builtin "sum.loop" ⟨[.ref a, .ref S, rawInt 0, rawInt 0], []⟩) R s := by
  intro n
  induction n using Nat.strongRecOn with
  | ind n ih =>
    intro s t c h
    refine codeAny_builtin F.entry_sum_loop ?_
    rw [Around.under_plainId F.plain_sum_loop _]
    show wpAny _ A.in1 (seqItems? (.ref S) >>= _) _ _ s
    refine wpAny_bind (wpAny_seqItems (h.holds (S, sumO (acc n) t c) (by simp)) rfl ?_)
    show wpAny _ A.in1 (tryCatch (pyNext (.ref a)) _ >>= _) _ _ s
    refine wpAny_bind (wpAny_tryCatch (draw (Ad := A.in1) hh hroom h (fun hn s' σ H I f => ?_) fun m v y σ H s' hn r I yd next => ?_))
    · subst hn
      exact wpAny_pure (hR _ (.int (acc 0)) σ H s' _ rfl I ⟨t, rfl⟩ (hF H f))
    · subst hn
      obtain ⟨i, rfl, ⟨f1, f2⟩, ⟨f3, f4⟩, e, hg⟩ := hY m y H yd
      obtain ⟨ti, rfl⟩ := _root_.id r
      have hS' := (next hg).holds (S, sumO (acc (m + 1)) t c) (by simp)
      have hc : ((decide (-(2 ^ 63) ≤ i) && decide (i < 2 ^ 63)) && (decide (-(2 ^ 63) ≤ acc (m + 1) + i) && decide (acc (m + 1) + i < 2 ^ 63))) = true := by
        simp only [Bool.and_eq_true, decide_eq_true_eq]
        exact ⟨⟨f1, f2⟩, f3, f4⟩
      show wpAny _ A.in1 (if (_ : Bool) = true then (mkInt (acc (m + 1) + i) >>= _) else _) _ _ _
      split
      · refine wpAny_bind (wpAny_mkInt ?_)
        show wpAny _ A.in1 (updateSeq S (fun _ => #[.int (acc (m + 1) + i) s'.toks]) >>= _) _ _ _
        refine wpAny_bind ?_
        refine wpAny_updateSeq hS' rfl ?_
        generalize hw : Heap.update _ _ _ = hp'
        obtain ⟨c', hself⟩ : ∃ c', hp'.get? S = some (sumO (acc m) s'.toks c') := ⟨_, by rw [← hw, e]; exact Heap.get?_update_self _ hS' rfl⟩
        have hoth : ∀ b o, S ≠ b → s'.heap.get? b = some o → hp'.get? b = some o := fun b o hb q => by rw [← hw]; exact (Heap.get?_update_other _ _ hb).trans q
        refine wpAny_pure ⟨plainId_quiet F.plain_sum_loop _, ih m (by omega) _ s'.toks c' ?_⟩
        refine (next hg).move ⟨rfl, (next hg).bare, fun b o hb q => ?_, rfl, fun p hp => ?_, fun p hp => ?_⟩ rfl fun o ho => ?_
        · exact hoth b o (fun h : S = b => hb (by rw [h]; simp)) q
        · simp only [List.mem_cons, List.not_mem_nil, or_false] at hp
          rcases hp with rfl | rfl
          · exact hoth _ _ hS ((next hg).holds (a, go) (by simp))
          · exact hself
        · simp only [List.mem_cons, List.not_mem_nil, or_false] at hp
          rcases hp with rfl | rfl
          · exact h.nocell (a, go) (by simp)
          · intro v z; cases z
        · simp only [List.mem_cons, List.not_mem_nil, or_false, Prod.mk.injEq] at ho ⊢
          rcases ho with ho | ho
          · exact .inl ho
          · exact absurd ho.1.symm hS
      · rename_i hneg
        exact absurd hc hneg
end
end HGx

set_option Elab.async false
set_option linter.all false
set_option maxRecDepth 100000
set_option maxHeartbeats 2000000
/-! Making a generator expression; all, any, sum of it. -/
namespace HGx
open PySem PySem.Spec PyProof.Rows L2 GxR GenW

/-- a generator just made, ready for the one who draws at A -/
def Made (X : Cx) (pins : Cps) (σ : L2.St) (A : Around) (H2 : Hp) (J : It) (g : TG) (tt : TT) (te : TE) (vs : List Nat) (a : Addr) (s5 : Shared) : Prop :=
  ∃ (s4 : Shared) (cenv : Env) (fp : List Addr) (gi : Nat) (go : Obj), cenv.locals < a ∧ s5.heap.get? a = some go ∧ (∀ v, go.data ≠ .cell v) ∧ Inv X pins σ H2 s5 ∧
    (∀ σ' H' s' cp, Inv (X.gx A s4 H2 cenv fp) cp σ' H' s' → Inv X pins σ H' s') ∧
    ∀ (W : Nat → Nat → Nat → Hp → Prop) (Yd : Nat → V → Hp → Prop) (Go : Nat → Prop) (Fin : Hp → Prop) (m n : Nat), Turns J g tt te vs σ Yd Go Fin W → W 0 m n H2 → Go n →
      ∀ s' cp, (∀ b o, s5.heap.get? b = some o → s'.heap.get? b = some o) → s'.gens = s5.gens → s'.os = s5.os → (a, go) ∈ cp → Holds cp s'.heap → (∀ p ∈ cp, cenv.locals < p.1) → (∀ p ∈ cp, ∀ v, p.2.data ≠ .cell v) →
        Asl (X.gx A s4 H2 cenv fp) A a gi Yd Go Fin n cp s'
section
variable {X : Cx} {pins : Cps} {σ : L2.St} {H : Hp} {s : Shared}
theorem gx_make {c P : Addr} {elt tg iter : Expr} {ifs : List Expr} {gpos : Pos} {scope : Scope} {own : List (Str × Nat)} {wi : TI} {g : TG} {tt : TT} {te : TE} {k : Nat} {A : Around} {Q' : Value → Shared → Prop} {R : It → Hp → Prop}
    (hr : Room k X.A) (hAh : A.handled = none) (hAf : A.frames = some X.stack) (hN : X.N.Nodup) (TB : TabB X.base X.mg c P) (hcode : X.env.code = .ref c) (hco : scope.isCoroutine = false) (hcell : ∀ y ∈ scope.names, y.2 ≠ .cell)
    (h0 : scope.names.lookup (".0" : Str) = some NameKind.local) (ok : BlkOk X.N X.env.scope scope own) (hi : PI X tg iter wi) (hs : ∀ v, genFold iter X.env v = pure v)
    (hg : ∀ (s : Shared) (H : Hp) (C : Addr) (cl : List (Str × Addr)) (cd : Value) (bi : Addr) (fp : List Addr), PG (X.gx A s H (genEnv scope cl C cd bi X.env) fp) tg g) (ht : ∀ (s : Shared) (H : Hp) (C : Addr) (cl : List (Str × Addr)) (cd : Value) (bi : Addr) (fp : List Addr), PTs (X.gx A s H (genEnv scope cl C cd bi X.env) fp) ifs tt)
    (he : ∀ (s : Shared) (H : Hp) (C : Addr) (cl : List (Str × Addr)) (cd : Value) (bi : Addr) (fp : List Addr), PE (X.gx A s H (genEnv scope cl C cd bi X.env) fp) elt te)
    (I : Inv X pins σ H s) (h : wi σ H fun J H1 => TabG H1 P ∧ R J H1) (hQ : ∀ J H1 H2 a s5, R J H1 → Tabbed P H1 H2 → Made X pins σ A H2 J g tt te (own.map (·.2)) a s5 → Q' (.ref a) s5) :
    wpAny (model X.prog X.w) X.A (eval (.GeneratorExp elt [⟨tg, iter, ifs, 0⟩] scope gpos) X.env) Q' X.xe s := by
  have hfree : ∀ y ∈ scope.names, y.2 = .free → ∃ c, X.env.cells.lookup y.1 = some c := fun y hy e => by
    rcases ok.free y hy e with k | k
    · exact I.ok.has _ (.inl k)
    · exact I.ok.has _ (.inr k)
  refine wpAny_GeneratorExp_make hco (closure_ok hfree) hcell h0 ok.kind (by have := hr.dp; omega) ?_ hs
  refine thn (hi.run pins s σ H _ I h) fun xv s1 hx => thn hx fun itv s2 h2 => ?_
  obtain ⟨it, fp, tn, J, H1, rfl, I1, T, st2, f2, ⟨ps, hP, htr⟩, q1⟩ := h2
  refine ⟨I1.nolimit, ?_⟩
  have hPs : s2.heap.get? P = some { cls := .none, data := .fields ps } := I1.hok P _ hP
  have cd : PySem.W.CodeHd s2.heap c P := TB.code.keeps fun b u e => I1.bk b u e
  have cont : ∀ (code : Value) (h3 : Heap) (tk : Nat) (ps' : Array Value), Heap.ExtBut P s2.heap h3 → s2.heap.objs.size ≤ h3.objs.size → h3.get? P = some { cls := .none, data := .fields ps' } → (∃ more, ps' = ps ++ more) → TriplesOk ps'.toList →
      wpAny (model X.prog X.w) X.A (builtinsFor X.env.globals X.env.builtins) (fun bi s₄ =>
        ∀ h', h'.Ns s₄.heap.objs.size (fun y => if y = ".0" then some (.ref it) else none) → Heap.SameBut s₄.heap.objs.size (s₄.heap.push { cls := .type "frame", data := .dict #[] }) h' →
          Q' (.ref h'.objs.size) { s₄ with
            gens := s₄.gens.push (.fresh (.compStart (.GeneratorExp elt [⟨tg, iter, ifs, 0⟩] scope gpos) 0 (.ref it) .none (genEnv scope (cloFrom X.env.cells scope.names []) s₄.heap.objs.size code bi X.env))),
            toks := s₄.toks + 1 + 1 + 1,
            heap := h'.push { cls := .type "generator", data := .fields #[.int s₄.gens.size 0, .str "<genexpr>" (s₄.toks + 1), .str (X.env.qual ++ "<genexpr>") (s₄.toks + 1 + 1)] } }) X.xe { s2 with heap := h3, toks := tk } := by
    intro code h3 tk ps' hx hsz hP3 ⟨more, em⟩ ht3
    obtain ⟨bm, ob, e1, e2, e3, e4, e5, e6, e7, e8⟩ := TB.bm
    have keep3 : ∀ b u, b ≠ P → s2.heap.get? b = some u → h3.get? b = some u := fun b u hb e => hx b u hb e
    refine wpAny_builtinsFor (m := X.mg) (by rw [I1.ok.glob]; exact (I1.mod.glob.keeps I1.bk).extBut hx TB.gP) e1 e2 (keep3 _ _ e4 (I1.bk _ _ e5)) e6 e7 e8 ?_
    intro h' hns hsb
    have I4 : Inv X pins σ (upd H1 P (.tbl (ps ++ more))) { s2 with heap := h3, toks := tk } := inv_tab (more := more) (h' := h3) (g' := s2.gens) (d' := s2.drawn) (t' := tk) I1 hP keep3 (by rw [← em]; exact hP3) I1.bare
    have tabd : Tabbed P H1 (upd H1 P (.tbl (ps ++ more))) := ⟨⟨ps ++ more, upd_same, by rw [← em]; exact ht3⟩, fun b hb => upd_ne hb⟩
    generalize hH2 : upd H1 P (.tbl (ps ++ more)) = H2 at I4 tabd
    refine hQ J H1 H2 _ _ q1 tabd ?_
    generalize hs4 : ({ s2 with heap := h3, toks := tk } : Shared) = s4 at I4 hns hsb ⊢
    have hs4h : s4.heap = h3 := by rw [← hs4]
    have hsz' : h'.objs.size = s4.heap.objs.size + 1 := by rw [hsb.1, Heap.size_push]
    generalize hgo : ({ cls := .type "generator", data := .fields #[.int s4.gens.size 0, .str "<genexpr>" (s4.toks + 1), .str (X.env.qual ++ "<genexpr>") (s4.toks + 1 + 1)] } : Obj) = go
    generalize ha : h'.objs.size = a at hsz' ⊢
    have hget : (h'.push go).get? a = some go := by rw [← ha]; exact Heap.get?_push_size _ (by rw [← hgo]; rfl)
    have hkh : ∀ b o, s4.heap.get? b = some o → h'.get? b = some o := fun b o e => (hsb.2 b (Nat.ne_of_lt (Heap.lt_size e))).trans (Heap.get?_push_of_some _ e)
    have hk5 : ∀ b o, s4.heap.get? b = some o → (h'.push go).get? b = some o := fun b o e => Heap.get?_push_of_some _ (hkh b o e)
    have hk2 : ∀ b o, b ≠ P → s2.heap.get? b = some o → (h'.push go).get? b = some o := fun b o hb e => hk5 b o (by rw [hs4h]; exact keep3 b o hb e)
    have fpP : ∀ b ∈ fp, b ≠ P := fun b hb z => by
      have := (f2 b hb).1
      rw [z, hP] at this
      cases this
    have f4 : ∀ b ∈ fp, FpOk X pins H2 b ∧ b < s4.heap.objs.size := fun b hb => by
      obtain ⟨o, e, _⟩ := T.obj _ _ st2 b hb
      refine ⟨⟨?_, (f2 b hb).2⟩, ?_⟩
      · rw [tabd.2 b (fpP b hb)]
        exact (f2 b hb).1
      · rw [hs4h]
        exact Heap.lt_size (keep3 b o (fpP b hb) e)
    have I5 : Inv X pins σ H2 { s4 with gens := s4.gens.push (.fresh (.compStart (.GeneratorExp elt [⟨tg, iter, ifs, 0⟩] scope gpos) 0 (.ref it) .none (genEnv scope (cloFrom X.env.cells scope.names []) s4.heap.objs.size code builtinsNs X.env))), toks := s4.toks + 1 + 1 + 1, heap := h'.push go } :=
      Inv.grown I4 hk5 rfl (I4.bare.push rfl)
    have IG := gx_start (scope := scope) (own := own) (fp := fp) (A := A) (code := code) (h1 := h'.push go) (g' := s4.gens.push (.fresh (.compStart (.GeneratorExp elt [⟨tg, iter, ifs, 0⟩] scope gpos) 0 (.ref it) .none (genEnv scope (cloFrom X.env.cells scope.names []) s4.heap.objs.size code builtinsNs X.env)))) (t' := s4.toks + 1 + 1 + 1)
      I4 ok hN hcell f4 hAh hAf (hns.push go) hk5 (I4.bare.push rfl)
    have pg := hg s4 H2 s4.heap.objs.size (cloFrom X.env.cells scope.names []) code builtinsNs fp
    have pt := ht s4 H2 s4.heap.objs.size (cloFrom X.env.cells scope.names []) code builtinsNs fp
    have pe := he s4 H2 s4.heap.objs.size (cloFrom X.env.cells scope.names []) code builtinsNs fp
    have hclo : ∀ y c, (cloFrom X.env.cells scope.names []).lookup y = some c → c < s4.heap.objs.size := fun y c e => by
      rcases cloFrom_mem (PySem.mem_of_lookup e) with hm | ⟨h1, rfl⟩
      · cases hm
      · obtain ⟨c, hc⟩ := hfree _ h1 rfl
        rw [hc]
        obtain ⟨w, z⟩ := I4.cell _ _ hc
        exact z.lt
    refine ⟨s4, genEnv scope (cloFrom X.env.cells scope.names []) s4.heap.objs.size code builtinsNs X.env, fp, s4.gens.size, go, by show s4.heap.objs.size < a; omega, hget, (fun v z => by rw [← hgo] at z; cases z), I5, fun σ' H' s' cp I6 => ?_, fun W Yd Go Fin m n turn w0 hgo' s' cp hk hge hos hmem hold hlt hnc => ?_⟩
    · exact I4.call' (ch := fp) I6.os I6.base I6.hok I6.bare fun b hb => ⟨(f4 b hb).1.2.2.2.1, (f4 b hb).1.2.1, (f4 b hb).1.2.2.2.2.1, (f4 b hb).1.2.2.2.2.2⟩
    · have big : ∀ b ∈ cp.map (·.1), s4.heap.objs.size < b := fun b hb => by
        obtain ⟨p, hp, rfl⟩ := List.mem_map.mp hb
        exact hlt p hp
      have fk : ∀ b ∈ cp.map (·.1), FpOk X pins H2 b := fun b hb => I4.fpOk (Nat.le_of_lt (big b hb)) (I4.hok.fresh (Nat.le_of_lt (big b hb)))
      have ats : CpAt (X.gx A s4 H2 (genEnv scope (cloFrom X.env.cells scope.names []) s4.heap.objs.size code builtinsNs X.env) fp) (cp.map (·.1)) := fun b hb =>
        ⟨Nat.le_of_lt (big b hb), Nat.ne_of_gt (big b hb), fun y c e z => Nat.lt_asymm (big b hb) (by rw [← z]; exact hclo y c e)⟩
      have I6 := Inv.grown IG (s' := s') hk hos (by rw [hge]; exact I5.bare)
      have I7 : Inv (X.gx A s4 H2 (genEnv scope (cloFrom X.env.cells scope.names []) s4.heap.objs.size code builtinsNs X.env) fp) cp (wipe σ (own.map (·.2))) H2 s' := I6.pins_of fun p hp => by
        have hb : p.1 ∈ cp.map (·.1) := List.mem_map.mpr ⟨p, hp, rfl⟩
        refine ⟨hold p hp, (fk _ hb).1, Nat.ne_of_gt (big _ hb), fun z => ?_, hnc p hp⟩
        rcases List.mem_cons.mp (I4.stkSub p.1 z) with z | z
        · exact (fk _ hb).2.1 z
        · exact (fk _ hb).2.2.1 z
      have hgen : s'.heap.IsGen a s4.gens.size := ⟨go, _, _, hk a go hget, by rw [← hgo], by rw [← hgo], by rw [← hgo]⟩
      have cst : cStatics ∉ cp.map (·.1) := fun z => by
        obtain ⟨_, hns', _⟩ := I4.nolimit
        exact Nat.lt_asymm (big _ z) hns'.lt
      have hgs : s'.gens[s4.gens.size]? = some (.fresh (.compStart (.GeneratorExp elt [⟨tg, iter, ifs, 0⟩] scope gpos) 0 (.ref it) .none (genEnv scope (cloFrom X.env.cells scope.names []) s4.heap.objs.size code builtinsNs X.env))) := by rw [hge]; exact Array.getElem?_push_size
      refine ⟨hgen, List.mem_map.mpr ⟨_, hmem, rfl⟩, I6.nolimit, cst, hold, hnc, by rw [hge]; exact I5.bare, hgo', rfl, ats, _, hgs, fun s'' cp' wk => And.intro rfl ?_⟩
      refine seg_start (G := X.gx A s4 H2 (genEnv scope (cloFrom X.env.cells scope.names []) s4.heap.objs.size code builtinsNs X.env) fp) (fp := fp) (tn := tn) (J := J) (W := W) (m := m) (H := H2) (cp := cp') rfl rfl rfl hco (fun b hb => ⟨hb, fun z => ?_⟩) ats T pg pt pe turn rfl wk.ad wk.holds (inv_woke I7 rfl ats wk) ?_ (fun b hb => (f4 b hb).1.1) w0
      · exact Nat.lt_asymm (big b z) (f4 b hb).2
      · refine T.keep _ _ _ st2 fun b hb o e => wk.keep b o (fun z => Nat.lt_asymm (big b z) (f4 b hb).2) (hk b o (hk2 b o (fpP b hb) e))
  cases hf : codeAmong gpos ps.toList with
  | none =>
    refine wpAny_genexprCodeX hcode (cd.code hPs htr) (cd.tab hPs) hf fun c' h' tk hx hge hlt hco' _ htab' _ => ?_
    obtain ⟨o1, vs, f1, tf, fl, tg, inF, tx, tt, op, _, _, _, _, _, _, _, _, _, htr', _⟩ := hco'
    exact cont _ h' tk _ hx (Nat.le_trans hge (Nat.le_of_lt hlt)) htab'.2 ⟨_, rfl⟩ htr'
  | some cv =>
    refine wpAny_genexprCode_hit hcode (cd.code hPs htr) hf ?_
    exact cont cv s2.heap s2.toks ps (Heap.ExtBut.refl _ _) (Nat.le_refl _) hPs ⟨#[], by simp⟩ htr
end
end HGx

set_option Elab.async false
set_option linter.all false
set_option maxRecDepth 100000
set_option maxHeartbeats 2000000
/-! all, any, sum of a generator expression, as readings. -/
namespace HGx
open PySem PySem.Spec PyProof.Rows L2 GxR GenW

abbrev Cns := (Nat → V → Hp → Prop) → (Nat → Prop) → (Hp → Prop) → Nat → VK → Prop
def tGx (P : Addr) (wi : TI) (g : TG) (tt : TT) (te : TE) (vs : List Nat) (cons : Cns) : TE := fun σ H Q => wi σ H fun J H1 => TabG H1 P ∧ ∀ H2, Tabbed P H1 H2 →
  ∃ (W : Nat → Nat → Nat → Hp → Prop) (Yd : Nat → V → Hp → Prop) (Go : Nat → Prop) (Fin : Hp → Prop) (m n : Nat), Turns J g tt te vs σ Yd Go Fin W ∧ W 0 m n H2 ∧ Go n ∧ cons Yd Go Fin n Q
def cAll : Cns := fun Yd Go Fin n Q => (∀ m y H, Yd m y H → (y = .bl true ∧ Go m) ∨ (y = .bl false ∧ Q (.bl false) H)) ∧ ∀ H, Fin H → Q (.bl true) H
def cAny : Cns := fun Yd Go Fin n Q => (∀ m y H, Yd m y H → (y = .bl false ∧ Go m) ∨ (y = .bl true ∧ Q (.bl true) H)) ∧ ∀ H, Fin H → Q (.bl false) H
def cSum : Cns := fun Yd Go Fin n Q => ∃ acc : Nat → Int, acc n = 0 ∧ (∀ m y H, Yd m y H → ∃ v, y = .int v ∧ InLong v ∧ InLong (acc (m + 1) + v) ∧ acc m = acc (m + 1) + v ∧ Go m) ∧ ∀ H, Fin H → Q (.int (acc 0)) H
section
variable {X : Cx} {c P : Addr} {elt tg iter : Expr} {ifs : List Expr} {gpos p pos : Pos} {scope : Scope} {own : List (Str × Nat)} {wi : TI} {g : TG} {tt : TT} {te : TE} {k : Nat}
theorem room_draw (hr : Room (k + 4) X.A) : X.A.in1.in1.handled = none ∧ X.A.in1.depth < recursionLimit :=
  ⟨hr.hd, by have := hr.dp; show X.A.depth < _; omega⟩
theorem pe_allG (hr : Room (k + 4) X.A) (hgl : Gl X "all") (hm : X.mg "all" = none) (hN : X.N.Nodup) (TB : TabB X.base X.mg c P) (hcode : X.env.code = .ref c) (hco : scope.isCoroutine = false) (hcell : ∀ y ∈ scope.names, y.2 ≠ .cell)
    (h0 : scope.names.lookup (".0" : Str) = some NameKind.local) (ok : BlkOk X.N X.env.scope scope own) (hi : PI X tg iter wi) (hs : ∀ v, genFold iter X.env v = pure v)
    (hg : ∀ (s : Shared) (H : Hp) (C : Addr) (cl : List (Str × Addr)) (cd : Value) (bi : Addr) (fp : List Addr), PG (X.gx X.A.in1.in1 s H (genEnv scope cl C cd bi X.env) fp) tg g) (ht : ∀ (s : Shared) (H : Hp) (C : Addr) (cl : List (Str × Addr)) (cd : Value) (bi : Addr) (fp : List Addr), PTs (X.gx X.A.in1.in1 s H (genEnv scope cl C cd bi X.env) fp) ifs tt)
    (he : ∀ (s : Shared) (H : Hp) (C : Addr) (cl : List (Str × Addr)) (cd : Value) (bi : Addr) (fp : List Addr), PE (X.gx X.A.in1.in1 s H (genEnv scope cl C cd bi X.env) fp) elt te)
    (hst : starEach [gxe elt tg iter ifs scope gpos] X.env = (false, eval (gxe elt tg iter ifs scope gpos) X.env) :: starEach [] X.env := by rfl) :
    PE X (.Call (.Name "all" p) [gxe elt tg iter ifs scope gpos] [] pos) (tGx P wi g tt te (own.map (·.2)) cAll) := by
  refine ⟨fun pins s σ H Q I h => ?_⟩
  refine wpAny_Call_Name_kw (ld_blt I hgl hm boot_all ?_)
  refine PyProof.Rows.callWith_builtin1 ?_ hst (by rfl)
  rw [hst]
  show wpAny _ _ (spliced ((false, eval (gxe elt tg iter ifs scope gpos) X.env) :: backTo pos (starEach [] X.env))) _ _ s
  refine Calls.spliced_cons (gx_make (A := X.A.in1.in1) (R := fun J H1 => ∀ H2, Tabbed P H1 H2 → _) hr hr.hd I.ok.frames hN TB hcode hco hcell h0 ok hi hs hg ht he I h fun J H1 H2 a s5 hR hT hM => ?_)
  obtain ⟨W, Yd, Go, Fin, m, n, turn, w0, hg0, hY, hF⟩ := hR H2 hT
  obtain ⟨s4, cenv, fp, gi, go, hlt, hget, hnc, I5, back, asl⟩ := hM
  have a0 := asl W Yd Go Fin m n turn w0 hg0 s5 [(a, go)] (fun _ _ e => e) rfl rfl (by simp) (fun p hp => by simp at hp; subst hp; exact hget) (fun p hp => by simp at hp; subst hp; exact hlt) (fun p hp => by simp at hp; subst hp; exact hnc)
  refine Calls.spliced_nil ?_
  refine call_function_tree F.kind_all F.plain_all F.entry_all (F.args_all1 _) ?_
  unfold Builtin.«all»
  refine wpAny_bind (m := oneArg "all" _) (wpAny_pure ?_)
  refine wpAny_bind (wpAny_pyIter_gen a0.gen ?_)
  exact wpAny_pure ⟨plainId_quiet F.plain_all_loop _, all_loop (G := X.gx X.A.in1.in1 s4 H2 cenv fp) (A := X.A) (Qd := Q) hr.hd (by have := hr.dp; show X.A.depth < _; omega) hY hF (fun v y σ' H' s' I' r q => ⟨y, H', back _ _ _ _ I', r, q⟩) n s5 a0⟩
theorem pe_anyG (hr : Room (k + 4) X.A) (hgl : Gl X "any") (hm : X.mg "any" = none) (hN : X.N.Nodup) (TB : TabB X.base X.mg c P) (hcode : X.env.code = .ref c) (hco : scope.isCoroutine = false) (hcell : ∀ y ∈ scope.names, y.2 ≠ .cell)
    (h0 : scope.names.lookup (".0" : Str) = some NameKind.local) (ok : BlkOk X.N X.env.scope scope own) (hi : PI X tg iter wi) (hs : ∀ v, genFold iter X.env v = pure v)
    (hg : ∀ (s : Shared) (H : Hp) (C : Addr) (cl : List (Str × Addr)) (cd : Value) (bi : Addr) (fp : List Addr), PG (X.gx X.A.in1.in1 s H (genEnv scope cl C cd bi X.env) fp) tg g) (ht : ∀ (s : Shared) (H : Hp) (C : Addr) (cl : List (Str × Addr)) (cd : Value) (bi : Addr) (fp : List Addr), PTs (X.gx X.A.in1.in1 s H (genEnv scope cl C cd bi X.env) fp) ifs tt)
    (he : ∀ (s : Shared) (H : Hp) (C : Addr) (cl : List (Str × Addr)) (cd : Value) (bi : Addr) (fp : List Addr), PE (X.gx X.A.in1.in1 s H (genEnv scope cl C cd bi X.env) fp) elt te)
    (hst : starEach [gxe elt tg iter ifs scope gpos] X.env = (false, eval (gxe elt tg iter ifs scope gpos) X.env) :: starEach [] X.env := by rfl) :
    PE X (.Call (.Name "any" p) [gxe elt tg iter ifs scope gpos] [] pos) (tGx P wi g tt te (own.map (·.2)) cAny) := by
  refine ⟨fun pins s σ H Q I h => ?_⟩
  refine wpAny_Call_Name_kw (ld_blt I hgl hm boot_any ?_)
  refine PyProof.Rows.callWith_builtin1 ?_ hst (by rfl)
  rw [hst]
  show wpAny _ _ (spliced ((false, eval (gxe elt tg iter ifs scope gpos) X.env) :: backTo pos (starEach [] X.env))) _ _ s
  refine Calls.spliced_cons (gx_make (A := X.A.in1.in1) (R := fun J H1 => ∀ H2, Tabbed P H1 H2 → _) hr hr.hd I.ok.frames hN TB hcode hco hcell h0 ok hi hs hg ht he I h fun J H1 H2 a s5 hR hT hM => ?_)
  obtain ⟨W, Yd, Go, Fin, m, n, turn, w0, hg0, hY, hF⟩ := hR H2 hT
  obtain ⟨s4, cenv, fp, gi, go, hlt, hget, hnc, I5, back, asl⟩ := hM
  have a0 := asl W Yd Go Fin m n turn w0 hg0 s5 [(a, go)] (fun _ _ e => e) rfl rfl (by simp) (fun p hp => by simp at hp; subst hp; exact hget) (fun p hp => by simp at hp; subst hp; exact hlt) (fun p hp => by simp at hp; subst hp; exact hnc)
  refine Calls.spliced_nil ?_
  refine call_function_tree F.kind_any F.plain_any F.entry_any (F.args_any1 _) ?_
  unfold Builtin.«any»
  refine wpAny_bind (m := oneArg "any" _) (wpAny_pure ?_)
  refine wpAny_bind (wpAny_pyIter_gen a0.gen ?_)
  exact wpAny_pure ⟨plainId_quiet F.plain_any_loop _, any_loop (G := X.gx X.A.in1.in1 s4 H2 cenv fp) (A := X.A) (Qd := Q) hr.hd (by have := hr.dp; show X.A.depth < _; omega) hY hF (fun v y σ' H' s' I' r q => ⟨y, H', back _ _ _ _ I', r, q⟩) n s5 a0⟩
theorem pe_sumG (hr : Room (k + 4) X.A) (hgl : Gl X "sum") (hm : X.mg "sum" = none) (hN : X.N.Nodup) (TB : TabB X.base X.mg c P) (hcode : X.env.code = .ref c) (hco : scope.isCoroutine = false) (hcell : ∀ y ∈ scope.names, y.2 ≠ .cell)
    (h0 : scope.names.lookup (".0" : Str) = some NameKind.local) (ok : BlkOk X.N X.env.scope scope own) (hi : PI X tg iter wi) (hs : ∀ v, genFold iter X.env v = pure v)
    (hg : ∀ (s : Shared) (H : Hp) (C : Addr) (cl : List (Str × Addr)) (cd : Value) (bi : Addr) (fp : List Addr), PG (X.gx X.A.in1.in1 s H (genEnv scope cl C cd bi X.env) fp) tg g) (ht : ∀ (s : Shared) (H : Hp) (C : Addr) (cl : List (Str × Addr)) (cd : Value) (bi : Addr) (fp : List Addr), PTs (X.gx X.A.in1.in1 s H (genEnv scope cl C cd bi X.env) fp) ifs tt)
    (he : ∀ (s : Shared) (H : Hp) (C : Addr) (cl : List (Str × Addr)) (cd : Value) (bi : Addr) (fp : List Addr), PE (X.gx X.A.in1.in1 s H (genEnv scope cl C cd bi X.env) fp) elt te)
    (hst : starEach [gxe elt tg iter ifs scope gpos] X.env = (false, eval (gxe elt tg iter ifs scope gpos) X.env) :: starEach [] X.env := by rfl) :
    PE X (.Call (.Name "sum" p) [gxe elt tg iter ifs scope gpos] [] pos) (tGx P wi g tt te (own.map (·.2)) cSum) := by
  refine ⟨fun pins s σ H Q I h => ?_⟩
  refine wpAny_Call_Name_kw (ld_blt I hgl hm boot_sum ?_)
  refine PyProof.Rows.callWith_builtin1 ?_ hst (by rfl)
  rw [hst]
  show wpAny _ _ (spliced ((false, eval (gxe elt tg iter ifs scope gpos) X.env) :: backTo pos (starEach [] X.env))) _ _ s
  refine Calls.spliced_cons (gx_make (A := X.A.in1.in1) (R := fun J H1 => ∀ H2, Tabbed P H1 H2 → _) hr hr.hd I.ok.frames hN TB hcode hco hcell h0 ok hi hs hg ht he I h fun J H1 H2 a s5 hR hT hM => ?_)
  obtain ⟨W, Yd, Go, Fin, m, n, turn, w0, hg0, acc, hn0, hY, hF⟩ := hR H2 hT
  obtain ⟨s4, cenv, fp, gi, go, hlt, hget, hnc, I5, back, asl⟩ := hM
  have a0 := asl W Yd Go Fin m n turn w0 hg0 s5 [(a, go)] (fun _ _ e => e) rfl rfl (by simp) (fun p hp => by simp at hp; subst hp; exact hget) (fun p hp => by simp at hp; subst hp; exact hlt) (fun p hp => by simp at hp; subst hp; exact hnc)
  refine Calls.spliced_nil ?_
  refine call_function_tree F.kind_sum F.plain_sum F.entry_sum (F.args_sum1 _) ?_
  unfold Builtin.«sum»
  simp only [List.length_cons, List.length_nil]
  rw [if_neg (by decide)]
  refine wpAny_bind (wpAny_of_eq (show Builtin.Builtins.bindParams "sum" ["start"] 0 { } = pure [none] from rfl) ?_)
  refine wpAny_bind (wpAny_pyIter_gen a0.gen ?_)
  refine wpAny_bind (wpAny_mkInt ?_)
  refine wpAny_bind (wpAny_pure ?_)
  simp only [List.forIn_cons, List.forIn_nil]
  refine wpAny_bind (wpAny_bind (wpAny_bind (wpAny_isInstance (T := "int") (b := false) (typeIs_int _ _ _) PySem.sub_int_str ?_)))
  simp only [Bool.false_eq_true, if_false]
  refine wpAny_pure (wpAny_bind (wpAny_bind (wpAny_isInstance (T := "int") (b := false) (typeIs_int _ _ _) PySem.sub_int_bytes ?_)))
  simp only [Bool.false_eq_true, if_false]
  refine wpAny_pure (wpAny_bind (wpAny_bind (wpAny_isInstance (T := "int") (b := false) (typeIs_int _ _ _) PySem.sub_int_bytearray ?_)))
  simp only [Bool.false_eq_true, if_false]
  refine wpAny_pure (wpAny_pure ?_)
  refine wpAny_bind (wpAny_newObj_type ?_)
  have hSlt : cenv.locals < s5.heap.objs.size := Nat.lt_trans hlt (Heap.lt_size hget)
  have hSa : s5.heap.objs.size ≠ a := Nat.ne_of_gt (Heap.lt_size hget)
  refine wpAny_pure ⟨plainId_quiet F.plain_sum_loop _, sum_loop (gi := gi) (G := X.gx X.A.in1.in1 s4 H2 cenv fp) (A := X.A) (S := s5.heap.objs.size) (go := go) (Qd := Q) hSa hr.hd (by have := hr.dp; show X.A.depth < _; omega) acc hY hF (fun v y σ' H' s' cp' _ I' r q => ⟨y, H', back _ _ _ _ I', r, q⟩) n _ s5.toks 0 ?_⟩
  refine asl W Yd Go Fin m n turn w0 hg0 _ _ (fun _ _ e => Heap.get?_push_of_some _ e) rfl rfl (by simp) (fun p hp => ?_) (fun p hp => ?_) (fun p hp => ?_)
  all_goals simp only [List.mem_cons, List.not_mem_nil, or_false] at hp
  all_goals rcases hp with rfl | rfl
  · exact Heap.get?_push_of_some _ hget
  · rw [hn0]; exact Heap.get?_push_size _ rfl
  · exact hlt
  · exact hSlt
  · exact hnc
  · intro v z; cases z
end
end HGx

set_option Elab.async false
set_option linter.all false
set_option maxRecDepth 100000
set_option maxHeartbeats 1000000
/-! Comprehensions, generator expressions: told over data. -/
namespace PD
open PySem L2 GxR HGx

def wipeS (ρ : List Sl) : List Nat → List Sl
  | [] => ρ
  | v :: vs => (wipeS ρ vs).set v .un
def toB : Sl → Sl
  | .own ds => .brw ds
  | s => s
/-- how the slots stand at the beginning of a block's turn -/
def blkS (vs : List Nat) (ρ : List Sl) : List Sl := (wipeS ρ vs).map toB
/-- these lists are known for good from here on -/
def frzL : List Nat → List Sl → List Sl
  | [], ρ => ρ
  | i :: is, ρ => match ρ[i]? with
    | some (.own ds) => frzL is (ρ.set i (.v (.list ds)))
    | _ => frzL is ρ
def blockB (N H : Hp) (σ : St) (ρ : List Sl) : Bs := ⟨fun b => ∃ j : Nat, ρ[j]? = some .src ∧ σ[j]? = some (some (.ref b)), fun b => ∃ (j : Nat) (ds : List PyData), (ρ[j]? = some (.own ds) ∨ ρ[j]? = some (.brw ds)) ∧ σ[j]? = some (some (.ref b)), N, H, N⟩
section
variable {K : PySem.W.Frag} {S : Src} {B : Bs} {N H N' H' : Hp} {σ : St} {ρ : List Sl}
theorem Rel.wiped (R : Rel K S B N H σ ρ) : ∀ vs : List Nat, Rel K S B N H (wipe σ vs) (wipeS ρ vs)
  | [] => R
  | v :: vs => (R.wiped vs).setU
theorem wipeS_out {i : Nat} : ∀ {vs : List Nat}, i ∉ vs → (wipeS ρ vs)[i]? = ρ[i]?
  | [], _ => rfl
  | v :: vs, h => by
    have h1 : v ≠ i := fun e => h (by rw [e]; exact List.mem_cons_self)
    unfold wipeS
    rw [List.getElem?_set_ne h1]
    exact wipeS_out fun m => h (List.mem_cons_of_mem _ m)
theorem wipeS_mut {i : Nat} {s : Sl} (m : s.mut = true) : ∀ {vs : List Nat}, (wipeS ρ vs)[i]? = some s → ρ[i]? = some s ∧ i ∉ vs
  | [], h => ⟨h, by simp⟩
  | v :: vs, h => by
    unfold wipeS at h
    rcases get_set_cases h with ⟨rfl, rfl, _⟩ | ⟨ne, h⟩
    · cases m
    · obtain ⟨h1, h2⟩ := wipeS_mut m h
      exact ⟨h1, by simp only [List.mem_cons, not_or]; exact ⟨ne, h2⟩⟩
theorem wipe_set {i : Nat} {x : Option V} : ∀ {vs : List Nat}, i ∈ vs → wipe (σ.set i x) vs = wipe σ vs
  | v :: vs, h => by
    unfold wipe
    by_cases hv : i ∈ vs
    · rw [wipe_set hv]
    · have e : v = i := by
        rcases List.mem_cons.mp h with h | h
        · exact h.symm
        · exact absurd h hv
      subst e
      have : wipe (σ.set v x) vs = (wipe σ vs).set v x := by
        clear h
        induction vs with
        | nil => rfl
        | cons w vs ih =>
          have hw : v ≠ w := fun z => hv (by rw [z]; exact List.mem_cons_self)
          unfold wipe
          rw [ih fun m => hv (List.mem_cons_of_mem _ m), List.set_comm _ _ hw]
      rw [this, List.set_set]
theorem Rel.block (R : Rel K S B N H σ ρ) : Rel K S (blockB N H σ ρ) N H σ (ρ.map toB) := by
  have zat : ∀ b, (blockB N H σ ρ).z b → ∃ o, H b = some o ∧ S.ok N o ∧ N b = none := fun b ⟨j, g1, g2⟩ => by
    obtain ⟨x, ex, a, o, e, h1, h2, h3, _⟩ := R.ok j _ g1
    rw [g2] at ex
    cases ex
    cases e
    exact ⟨o, h1, h2, h3⟩
  have yat : ∀ b, (blockB N H σ ρ).y b → ∃ vs, H b = some (.lst vs) ∧ N b = none := fun b ⟨j, ds, g1, g2⟩ => by
    rcases g1 with g1 | g1
    · obtain ⟨x, ex, a, vs, e, h1, h2, h3, _⟩ := R.ok j _ g1
      rw [g2] at ex
      cases ex
      cases e
      exact ⟨vs, h1, h3⟩
    · obtain ⟨x, ex, a, vs, e, h1, h2, h3, _⟩ := R.ok j _ g1
      rw [g2] at ex
      cases ex
      cases e
      exact ⟨vs, h1, h3⟩
  have ok : (blockB N H σ ρ).Ok S := ⟨R.sub, fun b hb => (zat b hb).elim fun _ z => z.2.2, fun b hb => (yat b hb).elim fun _ z => z.2, fun b hb => (yat b hb).elim fun vs z => ⟨vs, z.1⟩, fun b hb => (zat b hb).elim fun o z => ⟨o, z.1, z.2.1⟩, fun b hb hy => by
    obtain ⟨j, g1, g2⟩ := hb
    obtain ⟨i, ds, q1, q2⟩ := hy
    have ne : j ≠ i := fun z => by
      subst z
      rw [g1] at q1
      rcases q1 with q1 | q1 <;> cases q1
    rcases q1 with q1 | q1
    · exact R.sep j i _ _ b ne g1 q1 rfl rfl g2 q2
    · exact R.sep j i _ _ b ne g1 q1 rfl rfl g2 q2, fun b hb => R.tN hb, R.ext.tab⟩
  have back : ∀ {j : Nat} {s : Sl}, (ρ.map toB)[j]? = some s → ∃ t, ρ[j]? = some t ∧ s = toB t := fun {j s} h => by
    rw [List.getElem?_map] at h
    cases q : ρ[j]? with
    | none => rw [q] at h; cases h
    | some t => rw [q] at h; exact ⟨t, rfl, (Option.some.inj h).symm⟩
  refine ⟨ok, Ext.refl ok (Ex.refl _), by rw [List.length_map]; exact R.len, fun i s h => ?_, fun i j s t a ne h1 h2 m1 m2 e1 e2 => ?_⟩
  · obtain ⟨t, ht, rfl⟩ := back h
    obtain ⟨x, ex, q⟩ := R.ok i t ht
    refine ⟨x, ex, ?_⟩
    cases t with
    | un => trivial
    | v d => exact q
    | own ds =>
      obtain ⟨a, vs, e, h1, h2, h3, h4⟩ := q
      exact ⟨a, vs, e, h1, h2, h3, i, ds, .inl ht, by rw [ex, e]⟩
    | brw ds =>
      obtain ⟨a, vs, e, h1, h2, h3, h4⟩ := q
      exact ⟨a, vs, e, h1, h2, h3, i, ds, .inr ht, by rw [ex, e]⟩
    | src =>
      obtain ⟨a, o, e, h1, h2, h3, h4⟩ := q
      exact ⟨a, o, e, h1, h2, h3, .inl ⟨i, ht, by rw [ex, e]⟩⟩
    | exc a c => exact q
    | fz ds => exact q
  · obtain ⟨u, hu, rfl⟩ := back h1
    obtain ⟨w, hw, rfl⟩ := back h2
    exact R.sep i j u w a ne hu hw (by cases u <;> first | exact m1 | rfl) (by cases w <;> first | exact m2 | rfl) e1 e2
/-- back from a block -/
theorem Rel.unblock {vs : List Nat} {N2 H2 : Hp} (R : Rel K S B N H σ ρ) (Rb : Rel K S (blockB N H (wipe σ vs) (wipeS ρ vs)) N2 H2 (wipe σ vs) (blkS vs ρ)) : Rel K S B N2 H2 σ ρ := by
  have x := Rb.ext
  have zs : ∀ b, (blockB N H (wipe σ vs) (wipeS ρ vs)).z b → ∃ j : Nat, j ∉ vs ∧ ρ[j]? = some .src ∧ σ[j]? = some (some (.ref b)) := fun b ⟨j, g1, g2⟩ => by
    obtain ⟨h1, h2⟩ := wipeS_mut rfl g1
    exact ⟨j, h2, h1, (wipe_some g2).1⟩
  have ys : ∀ b, (blockB N H (wipe σ vs) (wipeS ρ vs)).y b → ∃ (j : Nat) (ds : List PyData), j ∉ vs ∧ (ρ[j]? = some (.own ds) ∨ ρ[j]? = some (.brw ds)) ∧ σ[j]? = some (some (.ref b)) := fun b ⟨j, ds, g1, g2⟩ => by
    rcases g1 with g1 | g1
    · obtain ⟨h1, h2⟩ := wipeS_mut rfl g1
      exact ⟨j, ds, h2, .inl h1, (wipe_some g2).1⟩
    · obtain ⟨h1, h2⟩ := wipeS_mut rfl g1
      exact ⟨j, ds, h2, .inr h1, (wipe_some g2).1⟩
  have hz : ∀ b, (blockB N H (wipe σ vs) (wipeS ρ vs)).z b → B.z b ∨ B.H b = none := fun b hb => by
    obtain ⟨j, _, g1, g2⟩ := zs b hb
    obtain ⟨y, ey, a, o, e, _, _, _, h4⟩ := R.ok j _ g1
    rw [g2] at ey
    cases ey
    cases e
    exact h4
  have hy : ∀ b, (blockB N H (wipe σ vs) (wipeS ρ vs)).y b → B.y b ∨ B.H b = none := fun b hb => by
    obtain ⟨j, ds, _, g1, g2⟩ := ys b hb
    rcases g1 with g1 | g1
    · obtain ⟨y, ey, a, o, e, _, _, _, h4⟩ := R.ok j _ g1
      rw [g2] at ey
      cases ey
      cases e
      exact .inr h4
    · obtain ⟨y, ey, a, o, e, _, _, _, h4⟩ := R.ok j _ g1
      rw [g2] at ey
      cases ey
      cases e
      exact .inl h4
  refine ⟨R.b, Ext.trans R.b R.ext hz hy x, R.len, fun j s hs => ?_, R.sep⟩
  obtain ⟨y, ey, q⟩ := R.ok j s hs
  refine ⟨y, ey, ?_⟩
  -- a slot that the block does not reach
  have off : j ∈ vs → s.mut = true → ∀ a, y = some (.ref a) → ¬ (blockB N H (wipe σ vs) (wipeS ρ vs)).z a ∧ ¬ (blockB N H (wipe σ vs) (wipeS ρ vs)).y a := fun hj m a hya => by
    subst hya
    refine ⟨fun hb => ?_, fun hb => ?_⟩
    · obtain ⟨i, g0, g1, g2⟩ := zs a hb
      exact R.sep j i s _ a (fun z => g0 (z ▸ hj)) hs g1 m rfl ey g2
    · obtain ⟨i, ds, g0, g1, g2⟩ := ys a hb
      rcases g1 with g1 | g1 <;> exact R.sep j i s _ a (fun z => g0 (z ▸ hj)) hs g1 m rfl ey g2
  have on : j ∉ vs → ∃ z, σ[j]? = some z ∧ SlOk K S (blockB N H (wipe σ vs) (wipeS ρ vs)) N2 H2 (toB s) z := fun hj => by
    have h1 : (blkS vs ρ)[j]? = some (toB s) := by
      unfold blkS
      rw [List.getElem?_map, wipeS_out hj, hs]
      rfl
    obtain ⟨z, ez, q⟩ := Rb.ok j _ h1
    rw [wipe_out hj] at ez
    exact ⟨z, ez, q⟩
  cases s with
  | un => trivial
  | v d => obtain ⟨v, e, r⟩ := q; exact ⟨v, e, r.up x.ex⟩
  | exc a c => exact q
  | fz ds => obtain ⟨a, vs, e, h1, h2⟩ := q; exact ⟨a, vs, e, ex_l x.ex h1, h2.up x.ex⟩
  | own ds =>
    obtain ⟨a, ws, e, h1, h2, h3, h4⟩ := q
    by_cases hj : j ∈ vs
    · obtain ⟨n1, n2⟩ := off hj rfl a e
      exact ⟨a, ws, e, x.keep a _ h1 n1 n2 (fun ht => tab_not (R.ext.tab a ht) h1 (fun ps z => by cases z)), h2.up x.ex, x.fr a h3 (by show H a ≠ none; rw [h1]; exact nofun), h4⟩
    · obtain ⟨z, ez, a', ws', e', g1, g2, g3, _⟩ := on hj
      rw [ey, e] at ez
      cases ez
      cases e'
      exact ⟨a, ws', e, g1, g2, g3, h4⟩
  | brw ds =>
    obtain ⟨a, ws, e, h1, h2, h3, h4⟩ := q
    by_cases hj : j ∈ vs
    · obtain ⟨n1, n2⟩ := off hj rfl a e
      exact ⟨a, ws, e, x.keep a _ h1 n1 n2 (fun ht => tab_not (R.ext.tab a ht) h1 (fun ps z => by cases z)), h2.up x.ex, x.fr a h3 (by show H a ≠ none; rw [h1]; exact nofun), h4⟩
    · obtain ⟨z, ez, a', ws', e', g1, g2, g3, _⟩ := on hj
      rw [ey, e] at ez
      cases ez
      cases e'
      exact ⟨a, ws', e, g1, g2, g3, h4⟩
  | src =>
    obtain ⟨a, o, e, h1, h2, h3, h4⟩ := q
    by_cases hj : j ∈ vs
    · obtain ⟨n1, n2⟩ := off hj rfl a e
      exact ⟨a, o, e, x.keep a _ h1 n1 n2 (fun ht => tab_nots (R.ext.tab a ht) h1 h2), S.mono _ _ _ x.ex h2, x.fr a h3 (by show H a ≠ none; rw [h1]; exact nofun), h4⟩
    · obtain ⟨z, ez, a', o', e', g1, g2, g3, _⟩ := on hj
      rw [ey, e] at ez
      cases ez
      cases e'
      exact ⟨a, o', e, g1, g2, g3, h4⟩
theorem Rel.freezeAll : ∀ (is : List Nat) {N : Hp} {ρ : List Sl}, Rel K S B N H σ ρ → ∃ N', Ex N N' ∧ Rel K S B N' H σ (frzL is ρ)
  | [], N, ρ, R => ⟨N, Ex.refl _, R⟩
  | i :: is, N, ρ, R => by
    unfold frzL
    split
    · rename_i ds h
      obtain ⟨a, vs, _, _, _, e1, _, R2⟩ := R.freeze h
      obtain ⟨N', e2, R3⟩ := R2.freezeAll is
      exact ⟨N', e1.trans e2, R3⟩
    · exact R.freezeAll is
/-- an object that no slot of ours holds -/
theorem Rel.poke {D : Addr} {o : HO} (R : Rel K S B N H σ ρ) (hN : N D = none) (hB : B.H D = none) (aw : Away σ ρ D) : Rel K S B N (upd H D o) σ ρ where
  b := R.b
  len := R.len
  sep := R.sep
  ext := ⟨R.ext.ex, fun b u q => by rw [upd_ne (fun z => by rw [z, hN] at q; cases q)]; exact R.sub b u q, R.ext.fr, fun b u e nz ny nt => by rw [upd_ne (fun z => by rw [z, hB] at e; cases e)]; exact R.ext.keep b u e nz ny nt, fun b n => by
    rw [upd_ne (fun z => n (by rw [z]; exact hB))]
    exact R.ext.dom b n, fun b q => by
    obtain ⟨u, g1, g2⟩ := R.ext.src b q
    obtain ⟨u0, g0, _⟩ := R.b.zs b q
    exact ⟨u, by rw [upd_ne (fun z => by rw [z, hB] at g0; cases g0)]; exact g1, g2⟩, R.ext.fl, fun b q => by
    obtain ⟨ps, g1, g2⟩ := R.ext.tab b q
    obtain ⟨ps0, g0, _⟩ := R.b.tH b q
    exact ⟨ps, by rw [upd_ne (fun z => by rw [z, hB] at g0; cases g0)]; exact g1, g2⟩⟩
  ok := fun i s h => by
    obtain ⟨x, e, q⟩ := R.ok i s h
    refine ⟨x, e, ?_⟩
    cases s with
    | un => trivial
    | v d => exact q
    | exc a c => exact q
    | fz ds => exact q
    | own ds =>
      obtain ⟨a, vs, e', h1, h2⟩ := q
      exact ⟨a, vs, e', by rw [upd_ne (fun z => aw i _ h rfl (by rw [e, e', z]))]; exact h1, h2⟩
    | brw ds =>
      obtain ⟨a, vs, e', h1, h2⟩ := q
      exact ⟨a, vs, e', by rw [upd_ne (fun z => aw i _ h rfl (by rw [e, e', z]))]; exact h1, h2⟩
    | src =>
      obtain ⟨a, u, e', h1, h2⟩ := q
      exact ⟨a, u, e', by rw [upd_ne (fun z => aw i _ h rfl (by rw [e, e', z]))]; exact h1, h2⟩
end

/-! ### readings that any context of the same slots shares -/
def F0 : WX := fun _ _ _ _ => False
def w0 : PWh := fun _ _ => False
theorem wok0 {K : PySem.W.Frag} {S : Src} {B : Bs} {σ : St} : WOk K S B σ F0 w0 := fun _ _ _ _ _ z => z
def cE (K : PySem.W.Frag) (S : Src) (p : PTE) : TE := fun σ H Q => ∃ (B : Bs) (N : Hp) (ρ : List Sl) (Q' : PKe), Rel K S B N H σ ρ ∧ p w0 ρ Q' ∧ ∀ N' H' v d ρ', Rel K S B N' H' σ ρ' → Ex N N' → Rp K N' v d → Q' d ρ' → Q v H'
def cT (K : PySem.W.Frag) (S : Src) (p : PTT) : TT := fun σ H Q => ∃ (B : Bs) (N : Hp) (ρ : List Sl) (Q' : Bool → List Sl → Prop), Rel K S B N H σ ρ ∧ p w0 ρ Q' ∧ ∀ N' H' b ρ', Rel K S B N' H' σ ρ' → Ex N N' → Q' b ρ' → Q b H'
def cG (K : PySem.W.Frag) (S : Src) (vs : List Nat) (p : PTG) : TG := fun v σ H Q => ∃ (B : Bs) (N : Hp) (ρ : List Sl) (d : PyData) (Q' : List Sl → Prop), Rel K S B N H σ ρ ∧ Rp K N v d ∧ p d ρ Q' ∧ ∀ N' H' σ' ρ', Rel K S B N' H' σ' ρ' → Ex N N' → wipe σ' vs = wipe σ vs → Q' ρ' → Q σ' H'
section
variable {S : Src} {X : Cx} {e a b c : Expr} {es : List Expr} {pos : Pos} {pa pb : PTE} {qa : PTT} {pg : PTG} {pgs : PTGs} {vs : List Nat}
theorem je_c0 (h : JE S X e pa) : PE X e (cE X.K S pa) := by
  obtain ⟨te, h1, h2⟩ := h
  have tk : L2N.Takes X F0 := fun u s' ⟨a, B, sI, pins, σ, H, cls, d, e, I, nb, up, sky, na, os, ag, w⟩ => w.elim
  exact ⟨fun pins s σ H Q I ⟨B, N, ρ, Q', R, q, k⟩ => (h1 F0 tk).run pins s σ H Q I (h2 F0 w0 B N H σ ρ Q Q' R wok0 q k)⟩
theorem jt_c0 (h : JT S X e qa) : PT X e (cT X.K S qa) := by
  obtain ⟨te, h1, h2⟩ := h
  have tk : L2N.Takes X F0 := fun u s' ⟨a, B, sI, pins, σ, H, cls, d, e, I, nb, up, sky, na, os, ag, w⟩ => w.elim
  exact ⟨fun pins s σ H Q I ⟨B, N, ρ, Q', R, q, k⟩ => (h1 F0 tk).run pins s σ H Q I (h2 F0 w0 B N H σ ρ Q Q' R wok0 q k)⟩
/-- tests of a clause -/
def JF (S : Src) (X : Cx) (ifs : List Expr) (p : PTT) : Prop := PTs X ifs (cT X.K S p)
def ptYes : PTT := fun _ ρ Q => Q true ρ
theorem jf_nil : JF S X [] ptYes := ⟨fun pins s σ H Q I ⟨B, N, ρ, Q', R, q, k⟩ => pts_nil.run pins s σ H Q I (k N H true ρ R (Ex.refl _) q)⟩
theorem jf_one (h : JT S X e qa) : JF S X [e] qa := pts_one (jt_c0 h)
/-- targets whose names are the block's -/
def SimGw (K : PySem.W.Frag) (S : Src) (vs : List Nat) (g : TG) (p : PTG) : Prop := ∀ (B : Bs) (N H : Hp) (σ : St) (ρ : List Sl) (v : V) (d : PyData) (Q : St → Hp → Prop) (Q' : List Sl → Prop), Rel K S B N H σ ρ → Rp K N v d → p d ρ Q' →
  (∀ N' H' σ' ρ', Rel K S B N' H' σ' ρ' → Ex N N' → wipe σ' vs = wipe σ vs → Q' ρ' → Q σ' H') → g v σ H Q
def JGw (S : Src) (X : Cx) (vs : List Nat) (tg : Expr) (p : PTG) : Prop := ∃ g, PG X tg g ∧ SimGw X.K S vs g p
def SimGsw (K : PySem.W.Frag) (S : Src) (vs : List Nat) (g : TGs) (p : PTGs) : Prop := ∀ (B : Bs) (N H : Hp) (σ : St) (ρ : List Sl) (ws : List V) (ds : List PyData) (Q : St → Hp → Prop) (Q' : List Sl → Prop), Rel K S B N H σ ρ → RpAll K N ws ds → p ds ρ Q' →
  (∀ N' H' σ' ρ', Rel K S B N' H' σ' ρ' → Ex N N' → wipe σ' vs = wipe σ vs → Q' ρ' → Q σ' H') → g ws σ H Q
def JGsw (S : Src) (X : Cx) (vs : List Nat) (tgs : List Expr) (p : PTGs) : Prop := ∃ g, PGs X tgs g ∧ SimGsw X.K S vs g p
theorem jgw_name (i : Nat) {x : Str} (hN : X.N.Nodup) (hv : i ∈ vs := by simp) (hi : X.N[i]? = some x := by rfl) (hx : Loc X.env.scope x := by first | exact Or.inl rfl | exact Or.inr rfl) (hf : X.fn x = true ∨ X.env.scope.names.lookup x = some .local := by first | exact .inl rfl | exact .inr rfl | assumption) :
    JGw S X vs (.Name x pos) (gtName i) := ⟨gName i, pg_name hN hi hx hf, fun B N H σ ρ v d Q Q' R r q k => k N H _ _ (R.setV r) (Ex.refl _) (wipe_set hv) q⟩
theorem jgsw_nil : JGsw S X vs [] gtNil := ⟨gNil, pgs_nil, fun B N H σ ρ ws ds Q Q' R r q k => by
  obtain ⟨e, q⟩ := q
  subst e
  cases r
  exact ⟨rfl, k N H σ ρ R (Ex.refl _) rfl q⟩⟩
theorem jgsw_cons (h1 : JGw S X vs e pg) (h2 : JGsw S X vs es pgs) (hs : (assignEach (e :: es) X.env).map (·.2) = assign e X.env :: (assignEach es X.env).map (·.2) := by rfl) : JGsw S X vs (e :: es) (gtCons pg pgs) := by
  obtain ⟨g, a1, a2⟩ := h1
  obtain ⟨u, b1, b2⟩ := h2
  refine ⟨gCons g u, pgs_cons a1 b1 hs, fun B N H σ ρ ws ds Q Q' R r q k => ?_⟩
  cases r with
  | nil => exact q.elim
  | cons h t => exact ⟨_, _, rfl, a2 B N H σ ρ _ _ _ _ R h q fun N1 H1 σ1 ρ1 R1 e1 w1 q1 => b2 B N1 H1 σ1 ρ1 _ _ _ _ R1 (t.up e1) q1 fun N2 H2 σ2 ρ2 R2 e2 w2 q2 => k N2 H2 σ2 ρ2 R2 (e1.trans e2) (w2.trans w1) q2⟩
theorem jgw_tup {k n : Nat} (hc : X.calm = true) (h : JGsw S X vs es pgs) (hn : (assignEach es X.env).length = n := by rfl) (hst : (assignEach es X.env).findIdx? (·.1) = none := by rfl) : JGw S X vs (.Tuple es k pos) (gtTup n pgs) := by
  obtain ⟨g, a1, a2⟩ := h
  refine ⟨fun v σ H Q => gTup X.K n g v σ H Q ∨ gLst X.K n g v σ H Q, pg_or (pg_tup hc a1 hn hst) (pg_lst hc a1 hn hst), fun B N H σ ρ v d Q Q' R r q k => ?_⟩
  cases r with
  | tup h1 h2 => exact .inl ⟨_, _, rfl, ex_t R.sub h1, by rw [h2.length]; exact q.1, a2 B N H σ ρ _ _ _ _ R h2 q.2 k⟩
  | lst h1 h2 => exact .inr ⟨_, _, rfl, .inl (.inl (R.sub _ _ h1)), by rw [h2.length]; exact q.1, a2 B N H σ ρ _ _ _ _ R h2 q.2 k⟩
  | _ => exact q.elim
theorem jg_c0 {tg : Expr} (h : JGw S X vs tg pg) : PG X tg (cG X.K S vs pg) := by
  obtain ⟨g, h1, h2⟩ := h
  exact ⟨fun pins s σ H v u Q I r ⟨B, N, ρ, d, Q', R, rp, q, k⟩ => h1.run pins s σ H v u Q I r (h2 B N H σ ρ v d Q Q' R rp q k)⟩
end
end PD

set_option Elab.async false
set_option linter.all false
set_option maxRecDepth 100000
set_option maxHeartbeats 1000000
/-! List comprehensions; all, any, sum of a generator expression: told over data. -/
namespace PD
open PySem L2 GxR HGx

theorem wipe_sub {σ : St} {vs : List Nat} : ∀ {ws : List Nat}, (∀ i ∈ ws, i ∈ vs) → wipe (wipe σ ws) vs = wipe σ vs
  | [], _ => rfl
  | w :: ws, h => by
    show wipe ((wipe σ ws).set w none) vs = _
    rw [wipe_set (h w List.mem_cons_self)]
    exact wipe_sub fun i hi => h i (List.mem_cons_of_mem _ hi)
theorem wipe_wipe {σ : St} {vs : List Nat} : wipe (wipe σ vs) vs = wipe σ vs := wipe_sub fun _ h => h
theorem blkOk_at (N : List Str) (sc : Scope) {scope : Scope} {own : List (Str × Nat)} (h : blkC N sc scope own = true) : BlkOk N sc scope own := blkOk_by h
/-- [elt for tg in iter if ..]; I by the turn and what has come -/
def pLc (frz vs : List Nat) (pi : PTI) (pg : PTG) (pt : PTT) (pe : PTE) : PTR := fun wp ρ Q => pi wp ρ fun ds ρ1 => ∃ I : Nat → List PyData → Prop, I 0 [] ∧
  (∀ i d acc, ds[i]? = some d → I i acc → pg d (blkS vs (frzL frz ρ1)) fun ρ3 => pt w0 ρ3 fun b ρ4 => if b = true then pe w0 ρ4 fun y ρ5 => acc.length < sizeLine ∧ I (i + 1) (acc ++ [y]) ∧ wipeS ρ5 vs = blkS vs (frzL frz ρ1) else I (i + 1) acc ∧ wipeS ρ4 vs = blkS vs (frzL frz ρ1)) ∧
  ∀ acc, I ds.length acc → Q (.own acc) (frzL frz ρ1)
def tLcC (K : PySem.W.Frag) (S : Src) (vs : List Nat) (wi : TI) (pg : PTG) (pt : PTT) (pe : PTE) : TE := tLc wi (cG K S vs pg) (cT K S pt) (cE K S pe) vs
theorem sim_lc {K : PySem.W.Frag} {S : Src} {frz vs : List Nat} {ti : WX → TI} {pi : PTI} {pg : PTG} {pt : PTT} {pe : PTE} (hi : SimI K S ti pi) : SimR K S (fun W => tLcC K S vs (ti W) pg pt pe) (pLc frz vs pi pg pt pe) := by
  intro W wp B N H σ ρ Q Q' R hw q k
  refine hi W wp B N H σ ρ _ _ R hw q fun N1 H1 J ds ρ1 R1 e1 it q1 => ?_
  obtain ⟨I, h0, hstep, hend⟩ := q1
  intro D hD
  obtain ⟨Nf, ef, Rf⟩ := R1.freezeAll frz
  have hBD : B.H D = none := R1.fresh hD
  have aw : Away σ (frzL frz ρ1) D := Rf.away hD
  have R0 := Rf.newH (o := .lst []) hD
  refine ⟨fun i m H' => m = ds.length - i ∧ i ≤ ds.length ∧ ∃ N' xs acc, Rel K S B N' H' σ (frzL frz ρ1) ∧ Ex Nf N' ∧ H' D = some (.lst xs) ∧ N' D = none ∧ RpAll K N' xs acc ∧ I i acc, ⟨ds.length, by simp, Nat.zero_le _, Nf, [], [], R0, Ex.refl _, upd_same, Rf.sub.none hD, .nil, h0⟩, ?_⟩
  rintro i m H' ⟨rfl, hle, N', xs, acc, R', e', hHD, hND, rx, hI⟩
  obtain ⟨h1, h2⟩ := it N' H' (ef.trans e') R'.sub i
  by_cases hi : i < ds.length
  · obtain ⟨go, yl⟩ := h1 ds[i] (List.getElem?_eq_getElem hi)
    refine .inr ⟨go, fun H2 => ∃ N' xs acc, Rel K S B N' H2 σ (frzL frz ρ1) ∧ Ex Nf N' ∧ H2 D = some (.lst xs) ∧ N' D = none ∧ RpAll K N' xs acc ∧ I (i + 1) acc, fun H2 z => ⟨ds.length - (i + 1), by omega, rfl, hi, z⟩, fun x H2 y => ?_⟩
    have st := hstep i ds[i] acc (List.getElem?_eq_getElem hi) hI
    have go_on : ∀ N2 H2, Rel K S B N2 H2 σ (frzL frz ρ1) → Ex N' N2 → H2 D = some (.lst xs) → N2 D = none → Rp K N2 x ds[i] → cG K S vs pg x (wipe σ vs) H2 fun σ2 H2 => wipe σ2 vs = wipe σ vs ∧ cT K S pt σ2 H2 fun b H3 =>
        if b = true then cE K S pe σ2 H3 fun y H4 => ∃ acc, H4 D = some (.lst acc) ∧ acc.length < sizeLine ∧ ∃ N' xs acc', Rel K S B N' (upd H4 D (.lst (acc ++ [y]))) σ (frzL frz ρ1) ∧ Ex Nf N' ∧ (upd H4 D (.lst (acc ++ [y]))) D = some (.lst xs) ∧ N' D = none ∧ RpAll K N' xs acc' ∧ I (i + 1) acc'
        else ∃ N' xs acc, Rel K S B N' H3 σ (frzL frz ρ1) ∧ Ex Nf N' ∧ H3 D = some (.lst xs) ∧ N' D = none ∧ RpAll K N' xs acc ∧ I (i + 1) acc := by
      intro N2 H2 R2 e2 hD2 hN2 rp
      have Rb := (R2.wiped vs).block
      have nz : ∀ {N3 H3 : Hp}, Ext S (blockB N2 H2 (wipe σ vs) (wipeS (frzL frz ρ1) vs)) N3 H3 → H3 D = some (.lst xs) ∧ N3 D = none := fun {N3 H3} x => by
        refine ⟨x.keep D _ hD2 (fun hb => ?_) (fun hb => ?_) (fun ht => tab_not (R2.ext.tab D ht) hD2 (fun ps z => by cases z)), x.fr D hN2 (by show H2 D ≠ none; rw [hD2]; exact nofun)⟩
        · obtain ⟨j, g1, g2⟩ := hb
          exact aw j _ (wipeS_mut rfl g1).1 rfl (wipe_some g2).1
        · obtain ⟨j, es, g1, g2⟩ := hb
          rcases g1 with g1 | g1 <;> exact aw j _ (wipeS_mut rfl g1).1 rfl (wipe_some g2).1
      have fin : ∀ {N3 H3 : Hp} {σ3 : St} {ρ3 : List Sl}, Rel K S (blockB N2 H2 (wipe σ vs) (wipeS (frzL frz ρ1) vs)) N3 H3 σ3 ρ3 → wipe σ3 vs = wipe σ vs → wipeS ρ3 vs = blkS vs (frzL frz ρ1) → Rel K S B N3 H3 σ (frzL frz ρ1) := fun {N3 H3 σ3 ρ3} R3 hs hr => by
        have R4 := R3.wiped vs
        rw [hs, hr] at R4
        exact R2.unblock R4
      refine ⟨_, N2, _, ds[i], _, Rb, rp, st, fun N3 H3 σ3 ρ3 R3 e3 hs3 q3 => ⟨hs3.trans wipe_wipe, _, N3, ρ3, _, R3, q3, fun N4 H4 b ρ4 R4 e4 q4 => ?_⟩⟩
      cases b with
      | false =>
        rw [if_neg Bool.false_ne_true] at q4 ⊢
        obtain ⟨g1, g2⟩ := nz R4.ext
        exact ⟨N4, xs, acc, fin R4 (hs3.trans wipe_wipe) q4.2, ((e'.trans e2).trans e3).trans e4, g1, g2, rx.up ((e2.trans e3).trans e4), q4.1⟩
      | true =>
        rw [if_pos rfl] at q4 ⊢
        refine ⟨_, N4, ρ4, _, R4, q4, fun N5 H5 v d ρ5 R5 e5 rv q5 => ?_⟩
        obtain ⟨g1, g2⟩ := nz R5.ext
        obtain ⟨q5, q6, q7⟩ := q5
        have e25 := ((e2.trans e3).trans e4).trans e5
        refine ⟨xs, g1, by rw [rx.length]; exact q5, N5, xs ++ [v], acc ++ [d], (fin R5 (hs3.trans wipe_wipe) q7).poke g2 hBD aw, e'.trans e25, upd_same, g2, (rx.up e25).append (.cons rv .nil), q6⟩
    rcases yl x H2 y with ⟨rfl, rp⟩ | ⟨T, o, hT, rfl, rp⟩
    · exact go_on N' H2 R' (Ex.refl _) hHD hND rp
    · have hTD : D ≠ T := fun z => by rw [z, hT] at hHD; cases hHD
      exact go_on _ _ (R'.newM hT) (Ex.new (R'.sub.none hT)) (by rw [upd_ne hTD]; exact hHD) (by rw [upd_ne hTD]; exact hND) rp
  · have e : i = ds.length := by omega
    subst e
    exact .inl ⟨h2 (Nat.le_refl _), k N' H' (.ref D) (.own acc) _ R' (e1.trans (ef.trans e')) ⟨D, xs, rfl, hHD, rx, hND, hBD, aw⟩ (hend acc hI)⟩
section
variable {S : Src} {X : Cx} {elt tg iter : Expr} {ifs : List Expr} {scope : Scope} {own : List (Str × Nat)} {pos : Pos} {pi : PTI} {pg : PTG} {pt : PTT} {pe : PTE}
theorem jr_lc (frz : List Nat) (own : List (Str × Nat)) (hc : X.calm = true) (hN : X.N.Nodup) (hi : JI S X tg iter pi) (ok : BlkOk X.N X.env.scope scope own)
    (hg : ∀ (s : Shared) (H : Hp) (C : Addr) (cl : List (Str × Addr)) (fp : List Addr), JGw S (X.blk s H scope (compEnvC scope cl C X.env) fp) (own.map (·.2)) tg pg)
    (ht : ∀ (s : Shared) (H : Hp) (C : Addr) (cl : List (Str × Addr)) (fp : List Addr), JF S (X.blk s H scope (compEnvC scope cl C X.env) fp) ifs pt)
    (he : ∀ (s : Shared) (H : Hp) (C : Addr) (cl : List (Str × Addr)) (fp : List Addr), JE S (X.blk s H scope (compEnvC scope cl C X.env) fp) elt pe) (hs : ∀ x, foldedSetIterable iter X.env x = pure x := by intro _; rfl) :
    JR S X (.ListComp elt [⟨tg, iter, ifs, 0⟩] scope pos) (pLc frz (own.map (·.2)) pi pg pt pe) := by
  obtain ⟨ti, i1, i2⟩ := hi
  exact ⟨fun W => tLcC X.K S (own.map (·.2)) (ti W) pg pt pe, fun W tk => pe_lc (own := own) (g := cG X.K S (own.map (·.2)) pg) (tt := cT X.K S pt) (te := cE X.K S pe) hc hN (i1 W tk) ok (fun s H C cl fp => jg_c0 (hg s H C cl fp)) (fun s H C cl fp => ht s H C cl fp) (fun s H C cl fp => je_c0 (he s H C cl fp)) hs, sim_lc i2⟩
theorem js_setLc (frz : List Nat) (own : List (Str × Nat)) (i : Nat) {y : Str} {py spos : Pos} (hc : X.calm = true) (hN : X.N.Nodup) (hi : JI S X tg iter pi) (ok : BlkOk X.N X.env.scope scope own)
    (hg : ∀ (s : Shared) (H : Hp) (C : Addr) (cl : List (Str × Addr)) (fp : List Addr), JGw S (X.blk s H scope (compEnvC scope cl C X.env) fp) (own.map (·.2)) tg pg)
    (ht : ∀ (s : Shared) (H : Hp) (C : Addr) (cl : List (Str × Addr)) (fp : List Addr), JF S (X.blk s H scope (compEnvC scope cl C X.env) fp) ifs pt)
    (he : ∀ (s : Shared) (H : Hp) (C : Addr) (cl : List (Str × Addr)) (fp : List Addr), JE S (X.blk s H scope (compEnvC scope cl C X.env) fp) elt pe)
    (hy : X.N[i]? = some y := by rfl) (hyl : X.env.scope.names.lookup y = some .local := by rfl) (hsw : swapsWith (.ListComp elt [⟨tg, iter, ifs, 0⟩] scope pos) (some (.Name y py)) spos.line X.env = pure true := by rfl)
    (hs : ∀ x, foldedSetIterable iter X.env x = pure x := by intro _; rfl) :
    JS S X (.Assign [.Name y py] (.ListComp elt [⟨tg, iter, ifs, 0⟩] scope pos) spos) (qSet i (pLc frz (own.map (·.2)) pi pg pt pe)) := by
  obtain ⟨ti, i1, i2⟩ := hi
  refine ⟨fun W => tAsg (tLcC X.K S (own.map fun z : Str × Nat => z.2) (ti W) pg pt pe) (gName i), fun W tk _ => ps_setLc (own := own) (g := cG X.K S (own.map fun z : Str × Nat => z.2) pg) (tt := cT X.K S pt) (te := cE X.K S pe) hc hN hy hyl hsw (i1 W tk) ok (fun s H C cl fp => jg_c0 (hg s H C cl fp)) (fun s H C cl fp => ht s H C cl fp) (fun s H C cl fp => je_c0 (he s H C cl fp)) hs, fun W D P B N H σ ρ R C q => ?_⟩
  exact sim_lc i2 W P.ex B N H σ ρ _ _ R C.w q fun N1 H1 v r ρ1 R1 _ ok q1 => C.nx N1 H1 _ _ (R1.put ok) q1

/-! ### generator expressions -/
/-- outs: what comes, in order; ks i: how many came ahead of item i; cont: whoever draws asks again behind this one -/
def GenOut (cont : PyData → Prop) (ds outs : List PyData) (ρb : List Sl) (vs : List Nat) (pg : PTG) (pt : PTT) (pe : PTE) : Prop := ∃ ks : Nat → Nat, ks 0 = 0 ∧ ks ds.length = outs.length ∧ (∀ i, i < ds.length → ks i ≤ ks (i + 1)) ∧
  ∀ i d, ds[i]? = some d → (∀ j o, j < ks i → outs[j]? = some o → cont o) → pg d ρb fun ρ3 => pt w0 ρ3 fun b ρ4 =>
    if b = true then pe w0 ρ4 fun y ρ5 => outs[ks i]? = some y ∧ ks (i + 1) = ks i + 1 ∧ wipeS ρ5 vs = ρb else ks (i + 1) = ks i ∧ wipeS ρ4 vs = ρb
def pGx (cont : PyData → Prop) (fin : List PyData → (PyData → Prop) → Prop) (frz vs : List Nat) (pi : PTI) (pg : PTG) (pt : PTT) (pe : PTE) : PTE := fun wp ρ Q => pi wp ρ fun ds ρ1 => ∃ outs, GenOut cont ds outs (blkS vs (frzL frz ρ1)) vs pg pt pe ∧ fin outs fun d => Q d (frzL frz ρ1)
/-- what the one who draws is told -/
def CnsOk (K : PySem.W.Frag) (S : Src) (cons : Cns) (cont : PyData → Prop) (fin : List PyData → (PyData → Prop) → Prop) : Prop := ∀ (B : Bs) (σ : St) (ρ : List Sl) (N0 : Hp) (outs : List PyData) (Q : VK) (Q' : PyData → Prop), fin outs Q' →
  (∀ N' H' v d, Rel K S B N' H' σ ρ → Ex N0 N' → Rp K N' v d → Q' d → Q v H') →
  cons (fun n' y H4 => ∃ N' d, Rel K S B N' H4 σ ρ ∧ Ex N0 N' ∧ Rp K N' y d ∧ n' < outs.length ∧ outs[outs.length - 1 - n']? = some d ∧ ∀ j o, j < outs.length - 1 - n' → outs[j]? = some o → cont o)
    (fun n' => ∀ j o, j < outs.length - n' → outs[j]? = some o → cont o) (fun H4 => ∃ N', Rel K S B N' H4 σ ρ ∧ Ex N0 N' ∧ ∀ o ∈ outs, cont o) outs.length Q
theorem sim_gx {K : PySem.W.Frag} {S : Src} {P : Addr} {cons : Cns} {cont : PyData → Prop} {fin : List PyData → (PyData → Prop) → Prop} {frz vs : List Nat} {ti : WX → TI} {pi : PTI} {pg : PTG} {pt : PTT} {pe : PTE} (hP : S.tb P) (hc : CnsOk K S cons cont fin) (hi : SimI K S ti pi) :
    SimE K S (fun W => tGx P (ti W) (cG K S vs pg) (cT K S pt) (cE K S pe) vs cons) (pGx cont fin frz vs pi pg pt pe) := by
  intro W wp B N H σ ρ Q Q' R hw q k
  refine hi W wp B N H σ ρ _ _ R hw q fun N1 H1 J ds ρ1 R1 e1 it q1 => ?_
  refine ⟨R1.ext.tab P hP, fun Ht hT => ?_⟩
  obtain ⟨outs, ⟨ks, k0, kl, kmono, hstep⟩, hfin⟩ := q1
  have Rt := R1.tabbed hP hT
  obtain ⟨Nf, ef, Rf⟩ := Rt.freezeAll frz
  refine ⟨fun i m n H' => m = ds.length - i ∧ i ≤ ds.length ∧ n + ks i = outs.length ∧ (∀ j o, j < ks i → outs[j]? = some o → cont o) ∧ ∃ N', Rel K S B N' H' σ (frzL frz ρ1) ∧ Ex Nf N', _, _, _, ds.length, outs.length, ?_, ⟨by simp, Nat.zero_le _, by rw [k0]; rfl, fun j o hj => absurd hj (by rw [k0]; exact Nat.not_lt_zero _), Nf, Rf, Ex.refl _⟩, fun j o hj => absurd hj (by simp),
    hc B σ (frzL frz ρ1) Nf outs Q (fun d => Q' d (frzL frz ρ1)) hfin fun N' H' v d R' e' r q' => k N' H' v d _ R' (e1.trans (ef.trans e')) r q'⟩
  rintro i m n H' ⟨rfl, hle, hn, hgo, N', R', e'⟩
  obtain ⟨h1, h2⟩ := it N' H' (ef.trans e') R'.sub i
  by_cases hi : i < ds.length
  · obtain ⟨go, yl⟩ := h1 ds[i] (List.getElem?_eq_getElem hi)
    refine .inr ⟨go, fun n' H2 => n' + ks (i + 1) = outs.length ∧ (∀ j o, j < ks (i + 1) → outs[j]? = some o → cont o) ∧ ∃ N', Rel K S B N' H2 σ (frzL frz ρ1) ∧ Ex Nf N', fun n' H2 z => ⟨ds.length - (i + 1), by omega, rfl, hi, z⟩, fun x H2 y => ?_⟩
    have st := hstep i ds[i] (List.getElem?_eq_getElem hi) hgo
    have go_on : ∀ N2 H2, Rel K S B N2 H2 σ (frzL frz ρ1) → Ex N' N2 → Rp K N2 x ds[i] → cG K S vs pg x (wipe σ vs) H2 fun σ2 H2 => wipe σ2 vs = wipe σ vs ∧ cT K S pt σ2 H2 fun b H3 =>
        if b = true then cE K S pe σ2 H3 fun y H4 => ∃ n', n = n' + 1 ∧ (∃ N' d, Rel K S B N' H4 σ (frzL frz ρ1) ∧ Ex Nf N' ∧ Rp K N' y d ∧ n' < outs.length ∧ outs[outs.length - 1 - n']? = some d ∧ ∀ j o, j < outs.length - 1 - n' → outs[j]? = some o → cont o) ∧
          ((∀ j o, j < outs.length - n' → outs[j]? = some o → cont o) → n' + ks (i + 1) = outs.length ∧ (∀ j o, j < ks (i + 1) → outs[j]? = some o → cont o) ∧ ∃ N', Rel K S B N' H4 σ (frzL frz ρ1) ∧ Ex Nf N')
        else n + ks (i + 1) = outs.length ∧ (∀ j o, j < ks (i + 1) → outs[j]? = some o → cont o) ∧ ∃ N', Rel K S B N' H3 σ (frzL frz ρ1) ∧ Ex Nf N' := by
      intro N2 H2 R2 e2 rp
      have Rb := (R2.wiped vs).block
      have fin : ∀ {N3 H3 : Hp} {σ3 : St} {ρ3 : List Sl}, Rel K S (blockB N2 H2 (wipe σ vs) (wipeS (frzL frz ρ1) vs)) N3 H3 σ3 ρ3 → wipe σ3 vs = wipe σ vs → wipeS ρ3 vs = blkS vs (frzL frz ρ1) → Rel K S B N3 H3 σ (frzL frz ρ1) := fun {N3 H3 σ3 ρ3} R3 hs hr => by
        have R4 := R3.wiped vs
        rw [hs, hr] at R4
        exact R2.unblock R4
      refine ⟨_, N2, _, ds[i], _, Rb, rp, st, fun N3 H3 σ3 ρ3 R3 e3 hs3 q3 => ⟨hs3.trans wipe_wipe, _, N3, ρ3, _, R3, q3, fun N4 H4 b ρ4 R4 e4 q4 => ?_⟩⟩
      cases b with
      | false =>
        rw [if_neg Bool.false_ne_true] at q4 ⊢
        exact ⟨by rw [q4.1]; exact hn, by rw [q4.1]; exact hgo, N4, fin R4 (hs3.trans wipe_wipe) q4.2, ((e'.trans e2).trans e3).trans e4⟩
      | true =>
        rw [if_pos rfl] at q4 ⊢
        refine ⟨_, N4, ρ4, _, R4, q4, fun N5 H5 v d ρ5 R5 e5 rv q5 => ?_⟩
        obtain ⟨q5, q6, q7⟩ := q5
        have hlt := (List.getElem?_eq_some_iff.mp q5).1
        have Rn := fin R5 (hs3.trans wipe_wipe) q7
        have en := (((e'.trans e2).trans e3).trans e4).trans e5
        have ei : outs.length - 1 - (outs.length - 1 - ks i) = ks i := by omega
        refine ⟨outs.length - 1 - ks i, by omega, ⟨N5, d, Rn, en, rv, by omega, by rw [ei]; exact q5, by rw [ei]; exact hgo⟩, fun hg => ⟨by omega, fun j o hj => hg j o (by omega), N5, Rn, en⟩⟩
    rcases yl x H2 y with ⟨rfl, rp⟩ | ⟨T, o, hT, rfl, rp⟩
    · exact go_on N' H2 R' (Ex.refl _) rp
    · exact go_on _ _ (R'.newM hT) (Ex.new (R'.sub.none hT)) rp
  · have e : i = ds.length := by omega
    subst e
    refine .inl ⟨h2 (Nat.le_refl _), by omega, N', R', e', fun o ho => ?_⟩
    obtain ⟨j, hj, ej⟩ := List.getElem_of_mem ho
    exact hgo j o (by rw [kl]; exact hj) (by rw [List.getElem?_eq_getElem hj, ej])

/-! ### all, any, sum -/
def isTru (d : PyData) : Bool := match d with | .bool b => b | _ => false
def fAll (outs : List PyData) (Q : PyData → Prop) : Prop := (∀ o ∈ outs, ∃ b, o = .bool b) ∧ Q (.bool (outs.all isTru))
def fAny (outs : List PyData) (Q : PyData → Prop) : Prop := (∀ o ∈ outs, ∃ b, o = .bool b) ∧ Q (.bool (outs.any isTru))
theorem cns_all {K : PySem.W.Frag} {S : Src} : CnsOk K S cAll (fun d => d = .bool true) fAll := by
  intro B σ ρ N0 outs Q Q' ⟨hb, q⟩ k
  refine ⟨fun m y H ⟨N', d, R, e, r, hm, hd, hc⟩ => ?_, fun H ⟨N', R, e, hc⟩ => ?_⟩
  · obtain ⟨b, rfl⟩ := hb d (List.mem_of_getElem? hd)
    cases r with
    | bl b =>
      cases b with
      | true =>
        refine .inl ⟨rfl, fun j o hj ho => ?_⟩
        by_cases h : j < outs.length - 1 - m
        · exact hc j o h ho
        · have : j = outs.length - 1 - m := by omega
          rw [this, hd] at ho
          exact (Option.some.inj ho).symm
      | false =>
        refine .inr ⟨rfl, k N' H (.bl false) (.bool false) R e (.bl false) ?_⟩
        have : outs.all isTru = false := by
          rw [List.all_eq_false]
          exact ⟨_, List.mem_of_getElem? hd, by simp [isTru]⟩
        rw [this] at q
        exact q
  · refine k N' H (.bl true) (.bool true) R e (.bl true) ?_
    have : outs.all isTru = true := by
      rw [List.all_eq_true]
      intro o ho
      rw [hc o ho]
      rfl
    rw [this] at q
    exact q
theorem cns_any {K : PySem.W.Frag} {S : Src} : CnsOk K S cAny (fun d => d = .bool false) fAny := by
  intro B σ ρ N0 outs Q Q' ⟨hb, q⟩ k
  refine ⟨fun m y H ⟨N', d, R, e, r, hm, hd, hc⟩ => ?_, fun H ⟨N', R, e, hc⟩ => ?_⟩
  · obtain ⟨b, rfl⟩ := hb d (List.mem_of_getElem? hd)
    cases r with
    | bl b =>
      cases b with
      | false =>
        refine .inl ⟨rfl, fun j o hj ho => ?_⟩
        by_cases h : j < outs.length - 1 - m
        · exact hc j o h ho
        · have : j = outs.length - 1 - m := by omega
          rw [this, hd] at ho
          exact (Option.some.inj ho).symm
      | true =>
        refine .inr ⟨rfl, k N' H (.bl true) (.bool true) R e (.bl true) ?_⟩
        have : outs.any isTru = true := by
          rw [List.any_eq_true]
          exact ⟨_, List.mem_of_getElem? hd, by simp [isTru]⟩
        rw [this] at q
        exact q
  · refine k N' H (.bl false) (.bool false) R e (.bl false) ?_
    have : outs.any isTru = false := by
      rw [List.any_eq_false]
      intro o ho
      rw [hc o ho]
      simp [isTru]
    rw [this] at q
    exact q
def sumD : List PyData → Int
  | [] => 0
  | .int i :: r => i + sumD r
  | _ :: r => sumD r
theorem sumD_append : ∀ (l r : List PyData), sumD (l ++ r) = sumD l + sumD r
  | [], r => by simp [sumD]
  | d :: l, r => by
    have := sumD_append l r
    cases d <;> simp [sumD, this] <;> omega
def fSum (outs : List PyData) (Q : PyData → Prop) : Prop := (∀ o ∈ outs, ∃ i, o = .int i ∧ InLong i) ∧ (∀ k, k ≤ outs.length → InLong (sumD (outs.take k))) ∧ Q (.int (sumD outs))
theorem cns_sum {K : PySem.W.Frag} {S : Src} : CnsOk K S cSum (fun _ => True) fSum := by
  intro B σ ρ N0 outs Q Q' ⟨hb, hs, q⟩ k
  refine ⟨fun n => sumD (outs.take (outs.length - n)), by simp [sumD], fun m y H ⟨N', d, R, e, r, hm, hd, hc⟩ => ?_, fun H ⟨N', R, e, hc⟩ => ?_⟩
  · obtain ⟨i, rfl, hi⟩ := hb d (List.mem_of_getElem? hd)
    cases r
    have e1 : outs.length - m = outs.length - (m + 1) + 1 := by omega
    have e2 : outs.length - 1 - m = outs.length - (m + 1) := by omega
    have e3 : sumD (outs.take (outs.length - m)) = sumD (outs.take (outs.length - (m + 1))) + i := by
      rw [e1, List.take_add_one, sumD_append, ← e2, hd]
      simp [sumD]
    refine ⟨i, rfl, hi, ?_, e3, fun _ _ _ _ => trivial⟩
    show InLong (sumD (outs.take (outs.length - (m + 1))) + i)
    rw [← e3]
    exact hs _ (by omega)
  · refine k N' H (.int _) (.int _) R e (.int _) ?_
    show Q' (.int (sumD (outs.take (outs.length - 0))))
    rw [Nat.sub_zero, List.take_length]
    exact q
variable {c P : Addr} {gpos p : Pos} {k : Nat}
theorem je_allG (frz : List Nat) (own : List (Str × Nat)) (hP : S.tb P) (hr : Room (k + 4) X.A) (hgl : Gl X "all") (hm : X.mg "all" = none) (hN : X.N.Nodup) (TB : TabB X.base X.mg c P) (hcode : X.env.code = .ref c) (hco : scope.isCoroutine = false) (hcell : ∀ y ∈ scope.names, y.2 ≠ .cell)
    (h0 : scope.names.lookup (".0" : Str) = some NameKind.local) (ok : BlkOk X.N X.env.scope scope own) (hi : JI S X tg iter pi)
    (hg : ∀ (s : Shared) (H : Hp) (C : Addr) (cl : List (Str × Addr)) (cd : Value) (bi : Addr) (fp : List Addr), JGw S (X.gx X.A.in1.in1 s H (genEnv scope cl C cd bi X.env) fp) (own.map (·.2)) tg pg) (ht : ∀ (s : Shared) (H : Hp) (C : Addr) (cl : List (Str × Addr)) (cd : Value) (bi : Addr) (fp : List Addr), JF S (X.gx X.A.in1.in1 s H (genEnv scope cl C cd bi X.env) fp) ifs pt)
    (he : ∀ (s : Shared) (H : Hp) (C : Addr) (cl : List (Str × Addr)) (cd : Value) (bi : Addr) (fp : List Addr), JE S (X.gx X.A.in1.in1 s H (genEnv scope cl C cd bi X.env) fp) elt pe) (hs : ∀ v, genFold iter X.env v = pure v := by intro _; rfl)
    (hst : starEach [gxe elt tg iter ifs scope gpos] X.env = (false, eval (gxe elt tg iter ifs scope gpos) X.env) :: starEach [] X.env := by rfl) :
    JE S X (.Call (.Name "all" p) [gxe elt tg iter ifs scope gpos] [] pos) (pGx (fun d => d = .bool true) fAll frz (own.map (·.2)) pi pg pt pe) := by
  obtain ⟨ti, i1, i2⟩ := hi
  exact ⟨fun W => tGx P (ti W) (cG X.K S (own.map (·.2)) pg) (cT X.K S pt) (cE X.K S pe) (own.map (·.2)) cAll, fun W tk => pe_allG (own := own) (g := cG X.K S (own.map (·.2)) pg) (tt := cT X.K S pt) (te := cE X.K S pe) hr hgl hm hN TB hcode hco hcell h0 ok (i1 W tk) hs (fun s H C cl cd bi fp => jg_c0 (hg s H C cl cd bi fp)) (fun s H C cl cd bi fp => ht s H C cl cd bi fp) (fun s H C cl cd bi fp => je_c0 (he s H C cl cd bi fp)) hst, sim_gx hP cns_all i2⟩
theorem je_anyG (frz : List Nat) (own : List (Str × Nat)) (hP : S.tb P) (hr : Room (k + 4) X.A) (hgl : Gl X "any") (hm : X.mg "any" = none) (hN : X.N.Nodup) (TB : TabB X.base X.mg c P) (hcode : X.env.code = .ref c) (hco : scope.isCoroutine = false) (hcell : ∀ y ∈ scope.names, y.2 ≠ .cell)
    (h0 : scope.names.lookup (".0" : Str) = some NameKind.local) (ok : BlkOk X.N X.env.scope scope own) (hi : JI S X tg iter pi)
    (hg : ∀ (s : Shared) (H : Hp) (C : Addr) (cl : List (Str × Addr)) (cd : Value) (bi : Addr) (fp : List Addr), JGw S (X.gx X.A.in1.in1 s H (genEnv scope cl C cd bi X.env) fp) (own.map (·.2)) tg pg) (ht : ∀ (s : Shared) (H : Hp) (C : Addr) (cl : List (Str × Addr)) (cd : Value) (bi : Addr) (fp : List Addr), JF S (X.gx X.A.in1.in1 s H (genEnv scope cl C cd bi X.env) fp) ifs pt)
    (he : ∀ (s : Shared) (H : Hp) (C : Addr) (cl : List (Str × Addr)) (cd : Value) (bi : Addr) (fp : List Addr), JE S (X.gx X.A.in1.in1 s H (genEnv scope cl C cd bi X.env) fp) elt pe) (hs : ∀ v, genFold iter X.env v = pure v := by intro _; rfl)
    (hst : starEach [gxe elt tg iter ifs scope gpos] X.env = (false, eval (gxe elt tg iter ifs scope gpos) X.env) :: starEach [] X.env := by rfl) :
    JE S X (.Call (.Name "any" p) [gxe elt tg iter ifs scope gpos] [] pos) (pGx (fun d => d = .bool false) fAny frz (own.map (·.2)) pi pg pt pe) := by
  obtain ⟨ti, i1, i2⟩ := hi
  exact ⟨fun W => tGx P (ti W) (cG X.K S (own.map (·.2)) pg) (cT X.K S pt) (cE X.K S pe) (own.map (·.2)) cAny, fun W tk => pe_anyG (own := own) (g := cG X.K S (own.map (·.2)) pg) (tt := cT X.K S pt) (te := cE X.K S pe) hr hgl hm hN TB hcode hco hcell h0 ok (i1 W tk) hs (fun s H C cl cd bi fp => jg_c0 (hg s H C cl cd bi fp)) (fun s H C cl cd bi fp => ht s H C cl cd bi fp) (fun s H C cl cd bi fp => je_c0 (he s H C cl cd bi fp)) hst, sim_gx hP cns_any i2⟩
theorem je_sumG (frz : List Nat) (own : List (Str × Nat)) (hP : S.tb P) (hr : Room (k + 4) X.A) (hgl : Gl X "sum") (hm : X.mg "sum" = none) (hN : X.N.Nodup) (TB : TabB X.base X.mg c P) (hcode : X.env.code = .ref c) (hco : scope.isCoroutine = false) (hcell : ∀ y ∈ scope.names, y.2 ≠ .cell)
    (h0 : scope.names.lookup (".0" : Str) = some NameKind.local) (ok : BlkOk X.N X.env.scope scope own) (hi : JI S X tg iter pi)
    (hg : ∀ (s : Shared) (H : Hp) (C : Addr) (cl : List (Str × Addr)) (cd : Value) (bi : Addr) (fp : List Addr), JGw S (X.gx X.A.in1.in1 s H (genEnv scope cl C cd bi X.env) fp) (own.map (·.2)) tg pg) (ht : ∀ (s : Shared) (H : Hp) (C : Addr) (cl : List (Str × Addr)) (cd : Value) (bi : Addr) (fp : List Addr), JF S (X.gx X.A.in1.in1 s H (genEnv scope cl C cd bi X.env) fp) ifs pt)
    (he : ∀ (s : Shared) (H : Hp) (C : Addr) (cl : List (Str × Addr)) (cd : Value) (bi : Addr) (fp : List Addr), JE S (X.gx X.A.in1.in1 s H (genEnv scope cl C cd bi X.env) fp) elt pe) (hs : ∀ v, genFold iter X.env v = pure v := by intro _; rfl)
    (hst : starEach [gxe elt tg iter ifs scope gpos] X.env = (false, eval (gxe elt tg iter ifs scope gpos) X.env) :: starEach [] X.env := by rfl) :
    JE S X (.Call (.Name "sum" p) [gxe elt tg iter ifs scope gpos] [] pos) (pGx (fun _ => True) fSum frz (own.map (·.2)) pi pg pt pe) := by
  obtain ⟨ti, i1, i2⟩ := hi
  exact ⟨fun W => tGx P (ti W) (cG X.K S (own.map (·.2)) pg) (cT X.K S pt) (cE X.K S pe) (own.map (·.2)) cSum, fun W tk => pe_sumG (own := own) (g := cG X.K S (own.map (·.2)) pg) (tt := cT X.K S pt) (te := cE X.K S pe) hr hgl hm hN TB hcode hco hcell h0 ok (i1 W tk) hs (fun s H C cl cd bi fp => jg_c0 (hg s H C cl cd bi fp)) (fun s H C cl cd bi fp => ht s H C cl cd bi fp) (fun s H C cl cd bi fp => je_c0 (he s H C cl cd bi fp)) hst, sim_gx hP cns_sum i2⟩
end
end PD

set_option Elab.async false
set_option linter.all false
set_option maxRecDepth 100000
set_option maxHeartbeats 1000000
/-! list(reversed(a list)). -/
namespace HGx
open PySem PySem.Spec PyProof.Rows RT
section
variable {prog : Program} {w : World} {A : Around} {E : Value → Shared → Prop} {s : Shared} {R : Result → Shared → Prop}
theorem list_init_rev {S it l : Addr} {items : Array Value} (hh : A.handled = none) (hit : s.heap.IsRevIter it l ((items.size : Int) - 1)) (hl : s.heap.IsList l items) (hne : l ≠ it) (hn : items.size ≤ sizeLine) (hSi : S ≠ it) (hSl : S ≠ l)
    (hS : s.heap.get? S = some { cls := .type "list", data := .seq #[] })
    (hR : ∀ (h' : Heap) (tk : Nat) (acc : Array Value) (c : Nat), (∀ b o, b ≠ it → b ≠ S → s.heap.get? b = some o → h'.get? b = some o) → h'.get? S = some { cls := .type "list", dict := none, data := .seq acc c, slots := #[] } → ItemsOf (fun i v => items[items.size - 1 - i]? = some v) acc items.size →
      R (.ok (.ret .none)) { s with heap := h', toks := tk }) :
    wpAny (model prog w) A.in1 (Builtin.«list.__init__» ⟨[.ref S, .ref it], []⟩)
      (fun fin s' => match fin with | .done f => R (.ok f) s' | .again c' => c'.quiet = true ∧ codeAny (model prog w) A c' R s') (fun e s' => R (.error e) s') s := by
  have W := (Walks.listRev (prog := prog) (w := w) (A := A.in1) hh it l hne items).toS
  have hSf : S ∉ [it, l] := by simp only [List.mem_cons, List.not_mem_nil, or_false, not_or]; exact ⟨hSi, hSl⟩
  show wpAny _ A.in1 (do let old ← Builtin.List.listItems (.ref S); Builtin.List.listUpdate (.ref S) (fun _ => #[]); letGo old.toList.reverse; Builtin.List.listExtendWith (.ref S) (.ref it) .none) _ _ s
  refine wpAny_bind ?_
  unfold Builtin.List.listItems
  refine wpAny_bind (wpAny_seqItems hS rfl (wpAny_pure ?_))
  show wpAny _ A.in1 (updateSeq S (fun _ => #[]) >>= fun _ => letGo (#[] : Array Value).toList.reverse >>= fun _ => Builtin.List.listExtendWith (.ref S) (.ref it) .none) _ _ s
  refine wpAny_bind (wpAny_updateSeq hS rfl ?_)
  have hS₁ := Heap.get?_update_self (Obj.mapSeq (fun _ => (#[] : Array Value))) hS rfl
  have oth : ∀ b o, b ≠ S → s.heap.get? b = some o → (s.heap.update S (Obj.mapSeq (fun _ => (#[] : Array Value)))).get? b = some o :=
    fun b o hb e => (Heap.get?_update_other _ _ (Ne.symm hb)).trans e
  refine wpAny_bind (wpAny_letGo ?_)
  generalize hs1 : s.heap.update S (Obj.mapSeq (fun _ => (#[] : Array Value))) = h1 at hS₁ oth ⊢
  have hit1 : h1.IsRevIter it l ((items.size : Int) - 1) := hit.at fun o e => oth _ _ (Ne.symm hSi) e
  have hl1 : h1.IsList l items := let ⟨o, ho, r⟩ := hl; ⟨o, oth _ _ (Ne.symm hSl) ho, r⟩
  have hT : ({ s with heap := h1 } : Shared).TypeIs (.ref it) "list_reverseiterator" := Heap.IsRevIter.typeIs (s := { s with heap := h1 }) hit1
  have hsr : Builtin.List.listSameRef (.ref S) (.ref it) = false := by simp [Builtin.List.listSameRef, hSi]
  unfold Builtin.List.listExtendWith
  refine wpAny_bind (wpAny_typeOf hT ?_)
  rw [if_neg (by rw [hsr]; decide)]
  refine wpAny_bind (wpAny_pyIter_revIter (s := { s with heap := h1 }) hit1 ?_)
  refine wpAny_bind (wpAny_holding ?_)
  unfold Builtin.List.listLengthHint
  refine wpAny_bind (wpAny_specialOf hT nolen_lri ?_)
  show wpAny _ A.in1 (specialOf (Value.ref it) (Str.ofString "__length_hint__") >>= _) _ _ _
  refine wpAny_bind (wpAny_specialOf hT hint_lri ?_)
  generalize hid : ("list_reverseiterator.__length_hint__" : String) = id0
  wp_delta
  rw [show splitId id0 = some ("list_reverseiterator", "__length_hint__") from by subst hid; decide +kernel]
  subst hid
  refine wpAny_bind (wpAny_isInstance (b := true) hT (by rw [isSubtype_type]; kernel_rfl) ?_)
  refine wpAny_pure ?_
  rw [if_neg (by decide)]
  have e0 : ((items.size : Nat) : Int) - 1 - ((0 : Nat) : Int) = (items.size : Int) - 1 := by omega
  refine wpAny_pure ⟨plainId_quiet F.plain_extend_loop _, codeAny_extend_loopS W hn _ hSf _ items.size 0 _ _ _ rfl (Nat.zero_le _) ⟨Nat.zero_le _, by rw [e0]; exact hit1, hl1⟩ hS₁ (ItemsOf.nil _) fun s' acc' c' hm hS' hacc => ?_⟩
  rw [Moved.eq_with hm]
  refine hR s'.heap s'.toks acc' c' (fun b o hb hb2 e => hm.heap b o (fun hmem => ?_) (oth b o hb2 e)) hS' hacc
  rcases List.mem_cons.mp hmem with e' | hmem
  · exact hb2 e'
  · exact hb (List.mem_singleton.mp hmem)
theorem call_list_rev {it l : Addr} {items : Array Value} {Q : Value → Shared → Prop} (hh : A.handled = none) (hit : s.heap.IsRevIter it l ((items.size : Int) - 1)) (hl : s.heap.IsList l items) (hne : l ≠ it) (hn : items.size ≤ sizeLine)
    (hQ : ∀ (h' : Heap) (tk : Nat) (acc : Array Value) (c : Nat), (∀ b o, b ≠ it → s.heap.get? b = some o → h'.get? b = some o) → h'.get? s.heap.objs.size = some { cls := .type "list", dict := none, data := .seq acc c, slots := #[] } →
      ItemsOf (fun i v => items[items.size - 1 - i]? = some v) acc items.size → Q (.ref s.heap.objs.size) { s with heap := h', toks := tk }) : wpAny (model prog w) A (call (.type "list") [.ref it]) Q E s := by
  obtain ⟨oi, hoi, _⟩ := id hit
  obtain ⟨ol, hol, _⟩ := id hl
  have hSi : s.heap.objs.size ≠ it := Nat.ne_of_gt (Heap.lt_size hoi)
  have hSl : s.heap.objs.size ≠ l := Nat.ne_of_gt (Heap.lt_size hol)
  refine callType_codes (Q₁ := fun obj s₁ => obj = .ref s.heap.objs.size ∧ s₁ = { s with heap := s.heap.push { cls := .type "list", data := .seq #[] } }) F.called_list (F.typeCall_list_1 _) F.entry_list_init
    (code_list_new _ ⟨rfl, rfl⟩) fun obj s₁ h₁ => ?_
  obtain ⟨rfl, rfl⟩ := h₁
  have hS : (s.heap.push { cls := .type "list", data := .seq #[] }).get? s.heap.objs.size = some { cls := .type "list", data := .seq #[] } := Heap.get?_push_size _ rfl
  refine ⟨⟨_, hS, rfl⟩, F.args_list_init_2 _ _, list_init_rev (s := { s with heap := s.heap.push { cls := .type "list", data := .seq #[] } }) hh (hit.at fun o e => Heap.get?_push_of_some _ e) (hl.push _) hne hn hSi hSl hS fun h' tk acc c hk hS' hi => ⟨rfl, ?_⟩⟩
  exact hQ h' tk acc c (fun b o hb e => hk b o hb (Nat.ne_of_lt (Heap.lt_size e)) (Heap.get?_push_of_some _ e)) hS' hi
end
open L2
/-- list(reversed(x)), x a list: a new list -/
def tLstRev (K : PySem.W.Frag) (te : TE) : TE := fun σ H Q => te σ H fun v H1 => ∃ (a : Addr) (xs : List V), v = .ref a ∧ SqL K H1 a xs ∧ ∀ q, H1 q = none → Q (.ref q) (upd H1 q (.lst xs.reverse))
theorem pe_lstRev {X : Cx} {e : Expr} {te : TE} {p p2 pos pos2 : Pos} (hc : X.calm = true) (hg : Gl X "list") (hm : X.mg "list" = none) (hg2 : Gl X "reversed") (hm2 : X.mg "reversed" = none) (he : PE X e te)
    (hs : starEach [e] X.env = (false, eval e X.env) :: starEach [] X.env := by rfl)
    (hs2 : starEach [.Call (.Name "reversed" p2) [e] [] pos2] X.env = (false, eval (.Call (.Name "reversed" p2) [e] [] pos2) X.env) :: starEach [] X.env := by rfl) :
    PE X (.Call (.Name "list" p) [.Call (.Name "reversed" p2) [e] [] pos2] [] pos) (tLstRev X.K te) := by
  refine ⟨fun pins s σ H Q I h => ?_⟩
  refine Call_ (ld_blt I hg hm boot_list (PyProof.Rows.callWith_type1 (args_cons (Call_ (ld_blt I hg2 hm2 PyProof.Rows.boot_reversed (PyProof.Rows.callWith_type1 (args_cons (thn (he.run pins s σ H _ I h) fun u s1 ⟨v, H1, I1, r1, q1⟩ => args_nil ?_) hs) hs rfl))) hs2) hs2 rfl))
  obtain ⟨a, xs, ev, hq, q⟩ := q1
  subst ev
  obtain rfl : u = Value.ref a := r1
  obtain ⟨its, rv, p', hz⟩ := I1.list hq
  refine call_reversed_list p'.isList (args_nil ?_)
  have k0 : ∀ b o, s1.heap.get? b = some o → (s1.heap.push (revObj a ((its.toArray.size : Int) - 1))).get? b = some o := fun b o e => Heap.get?_push_of_some _ e
  obtain ⟨f0, f1, f2, f3, f4, f5⟩ := I1.fpOk (H' := H1) (b := s1.heap.objs.size) (Nat.le_refl _) (I1.hok.fresh (Nat.le_refl _))
  have hl := p'.isList
  obtain ⟨ol, hol, _⟩ := id hl
  have hne : a ≠ s1.heap.objs.size := Nat.ne_of_lt (Heap.lt_size hol)
  have hn : its.toArray.size ≤ sizeLine := by rw [List.size_toArray, ← rv.length]; exact hz
  have sz : (s1.heap.push (revObj a ((its.toArray.size : Int) - 1))).objs.size = s1.heap.objs.size + 1 := Heap.size_push ..
  refine call_list_rev (s := { s1 with heap := s1.heap.push (revObj a ((its.toArray.size : Int) - 1)) }) (I1.ok.hd hc) ⟨_, Heap.get?_push_size _ rfl, rfl, rfl⟩ (hl.push _) hne hn fun h' tk acc c hk hS hi => ?_
  have hge : s1.heap.objs.size ≤ (s1.heap.push (revObj a ((its.toArray.size : Int) - 1))).objs.size := by rw [sz]; exact Nat.le_succ _
  refine ⟨.ref (s1.heap.push (revObj a ((its.toArray.size : Int) - 1))).objs.size, upd H1 (s1.heap.push (revObj a ((its.toArray.size : Int) - 1))).objs.size (.lst xs.reverse), I1.laid (t' := tk) (fun b o e => hk b o (Nat.ne_of_lt (Heap.lt_size e)) (k0 b o e)) hge (show ObjOk X.prog X.w _ _ _ (.lst xs.reverse) from ⟨by rw [List.length_reverse]; exact hz, acc.toList, c, vals_rev rv hi, ?_⟩), rfl, q _ (I1.hok.fresh hge)⟩
  rw [Array.toArray_toList]
  exact hS
end HGx

set_option Elab.async false
set_option linter.all false
set_option maxRecDepth 100000
set_option maxHeartbeats 1000000
/-! What the laws' texts share: draws, the end. -/
namespace PD
open PySem L2 GxR HGx

/-- the sources: lists of ints; tb: the tables of code objects -/
def drw (tb : Addr → Prop) : Src where
  ok := fun _ o => ∃ ns : List Int, o = .lst (ns.map V.int)
  mono := fun _ _ _ _ h => h
  tb := tb
  nt := fun _ _ h => by
    obtain ⟨ns, e⟩ := h
    cases e
section
variable {tb : Addr → Prop} {S : Src} {X : Cx} {e a b c : Expr} {es : List Expr} {pos p p2 pos2 : Pos} {pa pb : PTE} {pr : PTR}
/-- list(reversed(x)) -/
def pLstRev (q : PTE) : PTR := fun wp ρ Q => q wp ρ fun d ρ1 => match d with
  | .list ds => Q (.own ds.reverse) ρ1
  | _ => False
theorem jr_lstRev (hc : X.calm = true) (hg : Gl X "list") (hm : X.mg "list" = none) (hg2 : Gl X "reversed") (hm2 : X.mg "reversed" = none) (ha : JE S X e pa)
    (hs : starEach [e] X.env = (false, eval e X.env) :: starEach [] X.env := by rfl)
    (hs2 : starEach [.Call (.Name "reversed" p2) [e] [] pos2] X.env = (false, eval (.Call (.Name "reversed" p2) [e] [] pos2) X.env) :: starEach [] X.env := by rfl) :
    JR S X (.Call (.Name "list" p) [.Call (.Name "reversed" p2) [e] [] pos2] [] pos) (pLstRev pa) := by
  obtain ⟨t, a1, a2⟩ := ha
  refine ⟨fun W => tLstRev X.K (t W), fun W k => pe_lstRev hc hg hm hg2 hm2 (a1 W k) hs hs2, fun W wp B N H σ ρ Q Q' R hw q k => a2 W wp B N H σ ρ _ _ R hw q fun N1 H1 v d ρ1 R1 e1 r q1 => ?_⟩
  cases r with
  | lst h1 h2 =>
    refine ⟨_, _, rfl, .inl (.inl (R1.sub _ _ h1)), fun l hl => ?_⟩
    exact k N1 _ (.ref l) (.own _) ρ1 (R1.newH hl) e1 ⟨l, _, rfl, upd_same, h2.reverse, R1.sub.none hl, R1.fresh hl, R1.away hl⟩ q1
  | _ => exact q1.elim
/-- list(x), x a list or a tuple -/
def pLst1 (q : PTE) : PTR := fun wp ρ Q => q wp ρ fun d ρ1 => match d with
  | .list ds => Q (.own ds) ρ1
  | .tuple ds => Q (.own ds) ρ1
  | _ => False
theorem jr_lst1 (hg : Gl X "list") (hm : X.mg "list" = none) (ha : JE S X e pa) (hs : starEach [e] X.env = (false, eval e X.env) :: starEach [] X.env := by rfl) :
    JR S X (.Call (.Name "list" p) [e] [] pos) (pLst1 pa) := by
  obtain ⟨t, a1, a2⟩ := ha
  refine ⟨fun W => tCB (fun xs H Q => ∃ p ys, xs = [.ref p] ∧ (SqL X.K H p ys ∨ SqT X.K H p ys) ∧ ∀ l, H l = none → Q (.ref l) (upd H l (.lst ys))) (tCons (t W) tNil), fun W k => pe_callTy call_list_of hg hm PyProof.Rows.boot_list (pa_cons (a1 W k) pa_nil hs) (by decide) (by decide) hs (by rfl),
    fun W wp B N H σ ρ Q Q' R hw q k => a2 W wp B N H σ ρ _ _ R hw q fun N1 H1 v d ρ1 R1 e1 r q1 => ?_⟩
  cases r with
  | lst h1 h2 => exact ⟨_, _, rfl, .inl (.inl (.inl (R1.sub _ _ h1))), fun l hl => k N1 _ (.ref l) (.own _) ρ1 (R1.newH hl) e1 ⟨l, _, rfl, upd_same, h2, R1.sub.none hl, R1.fresh hl, R1.away hl⟩ q1⟩
  | tup h1 h2 => exact ⟨_, _, rfl, .inr (ex_t R1.sub h1), fun l hl => k N1 _ (.ref l) (.own _) ρ1 (R1.newH hl) e1 ⟨l, _, rfl, upd_same, h2, R1.sub.none hl, R1.fresh hl, R1.away hl⟩ q1⟩
  | _ => exact q1.elim
/-- len(x), x a name: x is only looked at -/
def pLenN (i : Nat) : PTE := fun _ ρ Q => match seqAt ρ i with
  | some ds => Q (.int ds.length) ρ
  | none => False
theorem je_lenN (i : Nat) {x : Str} {px : Pos} (hg : Gl X "len") (hm : X.mg "len" = none) (hN : X.N[i]? = some x := by rfl) (hv : Vis X.env.scope x := by first | exact Or.inl rfl | exact Or.inr (Or.inl rfl) | exact Or.inr (Or.inr rfl)) (hd : (x == ("__debug__" : Str)) = false := by decide)
    (hcd : (x == ("__classdict__" : Str)) = false := by decide) (hs : starEach [.Name x px] X.env = (false, eval (.Name x px) X.env) :: starEach [] X.env := by rfl) : JE S X (.Call (.Name "len" p) [.Name x px] [] pos) (pLenN i) := by
  refine ⟨fun _ => tCB _ (tCons (tVar i) tNil), fun W k => pe_callB call_len hg hm PySem.boot_len (pa_cons (pv i hN hv hd hcd) pa_nil hs) (by decide) (by decide) hs (by rfl), fun W wp B N H σ ρ Q Q' R hw q k => ?_⟩
  unfold pLenN at q
  cases h : PD.seqAt ρ i with
  | none => rw [h] at q; exact q.elim
  | some ds =>
    rw [h] at q
    obtain ⟨a, vs, ex, hq, hr⟩ := R.seqAt h
    refine ⟨.ref a, ex, .ref a, ds.length, rfl, ?_, k N H _ _ ρ R (Ex.refl _) (.int _) q⟩
    rcases hq with hq | hq
    · exact .inl ⟨vs, hq, hr.length.symm⟩
    · exact .inr ⟨vs, hq, hr.length.symm⟩
/-- x = e, e a new list of ints: a source from here on -/
def qSetSrc (i : Nat) (p : PTR) : PTS := fun P ρ => p P.ex ρ fun r ρ1 => (∃ ns : List Int, r = .own (ns.map PyData.int)) ∧ P.nx (ρ1.set i .src)
theorem js_setSrc (i : Nat) {x : Str} {pos' : Pos} (hN : X.N.Nodup) (h : JR (drw tb) X e pr) (hi : X.N[i]? = some x := by rfl) (hx : Loc X.env.scope x := by first | exact Or.inl rfl | exact Or.inr rfl) (hs : swapsWith e (some (.Name x pos')) pos.line X.env = pure false := by rfl)
    (hf : X.fn x = true ∨ X.env.scope.names.lookup x = some .local := by first | exact .inl rfl | exact .inr rfl | assumption) : JS (drw tb) X (.Assign [.Name x pos'] e pos) (qSetSrc i pr) := by
  obtain ⟨t, a1, a2⟩ := h
  refine ⟨fun W => tAsg (t W) (gName i), fun W k _ => ps_set hN hi hx (a1 W k) hs hf, fun W D P B N H σ ρ R C q => a2 W P.ex B N H σ ρ _ _ R C.w q fun N1 H1 v r ρ1 R1 _ ok q1 => ?_⟩
  obtain ⟨⟨ns, rfl⟩, q1⟩ := q1
  obtain ⟨a, vs, rfl, h1, h2, h3, h4, h5⟩ := ok
  have e := h2.of_ints
  subst e
  exact C.nx N1 H1 _ _ (R1.set (x := some (.ref a)) (s := .src) ⟨a, _, rfl, h1, ⟨ns, rfl⟩, h3, .inr h4⟩ fun _ c hc j s ne hj hm hh => by
    cases hc
    exact h5 j s hj hm hh) q1
/-- the body of the laws' draw -/
def qTake (i j : Nat) : PTS := fun P ρ => ρ[i]? = some .src ∧ ∃ b : Int, ρ[j]? = some (.v (.int b)) ∧ 0 < b ∧ ∀ r : Int, 0 ≤ r → r < b → P.rt (.v (.int r))
theorem jss_take (i j : Nat) {x y : Str} {p1 p3 p4 p5 p6 p7 p8 p9 p10 p11 p12 p13 p14 px px2 py : Pos} {k0 k1 : Nat} (hgl : Gl X "len") (hml : X.mg "len" = none) (hgi : Gl X "int") (hmi : X.mg "int" = none)
    (hN : X.N[i]? = some x := by rfl) (hv : Vis X.env.scope x := by first | exact Or.inl rfl | exact Or.inr (Or.inl rfl) | exact Or.inr (Or.inr rfl)) (hNy : X.N[j]? = some y := by rfl) (hvy : Vis X.env.scope y := by first | exact Or.inl rfl | exact Or.inr (Or.inl rfl) | exact Or.inr (Or.inr rfl))
    (hd : (x == ("__debug__" : Str)) = false := by decide) (hcd : (x == ("__classdict__" : Str)) = false := by decide) (hdy : (y == ("__debug__" : Str)) = false := by decide) (hcdy : (y == ("__classdict__" : Str)) = false := by decide)
    (hs : starEach [.Name x px] X.env = (false, eval (.Name x px) X.env) :: starEach [] X.env := by rfl)
    (hs2 : starEach [.Call (.Attribute (.Name x px2) "pop" p9) [] [] p10] X.env = (false, eval (.Call (.Attribute (.Name x px2) "pop" p9) [] [] p10) X.env) :: starEach [] X.env := by rfl)
    (hbase : attributeBase (.Name x px2) "pop" X.env (eval (.Name x px2) X.env) = eval (.Name x px2) X.env := by rfl) (hline : (p9.endLine == p10.line) = true := by rfl) (hb0 : behindInMarks .Eq (.Constant (.int 0) k0 p4) = false := by rfl) :
    JSs (drw tb) X [.If (.Compare (.Call (.Name "len" p1) [.Name x px] [] p3) [.Eq] [.Constant (.int 0) k0 p4] p5) [.Return (some (.Constant (.int 0) k1 p6)) p7] [] p8, .Return (some (.BinOp (.Call (.Name "int" p11) [.Call (.Attribute (.Name x px2) "pop" p9) [] [] p10] [] p12) .Mod (.Name y py) p13)) p14] (qTake i j) := by
  refine ⟨fun _ => tSeq (tIfS (tTest (tOp rEq (tCB _ (tCons (tVar i) tNil)) (tC (.int 0)))) (tRet (tC (.int 0))) tNext) (tRet (tOp _ (tCB _ (tCons (tBM0 X.K "list" rPop (tVar i)) tNil)) (tVar j))), fun W k o =>
    pss_cons (ps_if (pt_cmpR op_eq (pe_callB call_len hgl hml PySem.boot_len (pa_cons (pv i hN hv hd hcd) pa_nil hs) (by decide) (by decide) hs (by rfl)) pe_int hb0) (pss_one (ps_ret pe_int)) pss_nil)
      (pss_one (ps_ret (pe_op op_mod (pe_callTy call_int1 hgi hmi PyProof.Rows.boot_int (pa_cons (pe_bm0 PySem.F.plainAttrs_list PySem.F.slot_list_pop PySem.F.type_list_pop mt_pop (pv i hN hv hd hcd) hbase hline) pa_nil hs2) (by decide) (by decide) hs2 (by rfl)) (pv j hNy hvy hdy hcdy)))), fun W D P B N H σ ρ R C q => ?_⟩
  obtain ⟨hi, b, hj, hb, q⟩ := q
  obtain ⟨x1, ex, a, o, rfl, h1, ⟨ns, rfl⟩, h3, h4⟩ := R.ok i _ hi
  obtain ⟨y1, ey, v, rfl, ry⟩ := R.ok j _ hj
  cases ry
  refine ⟨.ref a, ex, .ref a, _, rfl, .inl ⟨_, .inl (.inl h1), rfl⟩, rfl, _, rfl, ite2 (fun _ => ?_) (fun hne => ?_)⟩
  · exact C.rt N H (.int 0) (.v (.int 0)) R.ext (.int 0) (q 0 (Int.le_refl _) hb)
  · have hlen : (ns.map V.int).length ≠ 0 := fun z => hne (by rw [z]; rfl)
    obtain ⟨n, hn⟩ : ∃ n, ns[ns.length - 1]? = some n := by
      rw [List.length_map] at hlen
      exact ⟨ns[ns.length - 1], List.getElem?_eq_getElem (by omega)⟩
    have hlast : (ns.map V.int)[(ns.map V.int).length - 1]? = some (.int n) := by
      rw [List.length_map, List.getElem?_map, hn]
      rfl
    refine ⟨.ref a, ex, .inl ⟨rfl, _, .inl (.inl h1)⟩, a, _, .int n, rfl, rfl, h1, hlast, .inl ⟨n, rfl, .int b, ey, n, b, rfl, rfl, hb, ?_⟩⟩
    have hdl : (ns.map V.int).dropLast = (ns.dropLast).map V.int := by simp
    have hBz : ∀ c, B.H c ≠ none → ¬ B.z c → c ≠ a := fun c n nz z => by
      subst z
      exact h4.elim nz n
    refine C.rt N _ (.int (n % b)) (.v (.int (n % b))) ⟨R.ext.ex, fun c u q => ?_, R.ext.fr, fun c u e nz ny nt => ?_, fun c n => ?_, fun c hc => ?_, R.ext.fl, fun c hc => ?_⟩ (.int _) (q _ (Int.emod_nonneg _ (by omega)) (Int.emod_lt_of_pos _ hb))
    · rw [upd_ne (fun z => by rw [z, h3] at q; cases q)]
      exact R.sub c u q
    · rw [upd_ne (hBz c (by rw [e]; exact nofun) nz)]
      exact R.ext.keep c u e nz ny nt
    · by_cases hc : c = a
      · rw [hc, upd_same]; exact nofun
      · rw [upd_ne hc]; exact R.ext.dom c n
    · by_cases h : c = a
      · rw [h, upd_same]
        exact ⟨_, rfl, ns.dropLast, by rw [hdl]⟩
      · rw [upd_ne h]
        exact R.ext.src c hc
    · obtain ⟨ps, g1, g2⟩ := R.ext.tab c hc
      exact ⟨ps, by rw [upd_ne (fun z => by rw [z, h1] at g1; cases g1)]; exact g1, g2⟩
end
end PD

set_option Elab.async false
set_option linter.all false
set_option maxRecDepth 100000
set_option maxHeartbeats 1000000
/-! A def whose code object is known; the end of a law. -/
namespace PD
open PySem L2 GxR HGx
section
variable {P : Program} {w : World} {K : PySem.W.Frag} {mg : Str → Option Value} {base : Heap} {S : Src}
theorem okDC {x qual : Str} {st : Stmt} {f : Addr} {fd : FuncData} {N ps : List Str} {k : Nat} {P' : PSpec} {p : PTS} (F : Fun K x qual st f fd) (sc : FnScope N ps (defScope st)) (hl : ∀ as Qr Qe, P' as Qr Qe → as.length = ps.length)
    (body : ∀ (cdv : Value) (A : Around) (outer : List Env) (s : Shared) (H : Hp) (E : XK), cdv = fd.code → Room k (A.deeper (PyProof.Rows.envOfC qual (defScope st) s.heap.objs.size f cdv)) → JSs S (cxOf (L2N.CX P w) P w K mg base N qual (defScope st) f cdv A outer s H E) (defBody st) p)
    (h : ∀ as Qr Qe, P' as Qr Qe → p (enOf Qr Qe) (begin_ N.length as)) : FnOk P w K mg base (L2N.CX P w) (k + 1) f fd ps (spOf K S P') := by
  obtain ⟨oc, od, kV, doc, pm, an, cdv, ct, osl, rfl, lk, hcd⟩ := F.ex
  refine fn_of lk hcd sc (fun vs H Q E hs => ?_) fun A outer s H vs Q E hr hs => ?_
  · obtain ⟨B, as, Qr, Qe, _, R, hp, _⟩ := hs
    have := R.len
    rw [List.length_map] at this
    rw [this]
    exact hl as Qr Qe hp
  · obtain ⟨B, as, Qr, Qe, rfl, R, hp, kr, ke⟩ := hs
    obtain ⟨ts, b1, b2⟩ := body cdv A outer s B.H E rfl hr
    refine ⟨ts _, b1 (fun cls d _ H => E cls d H) (L2N.takes_of rfl rfl rfl rfl) (passes_of rfl), ?_⟩
    have hlen : vs.length = as.length := by
      have := R.len
      rw [List.length_map] at this
      exact this
    have R2 := R.start (N.length - vs.length)
    rw [show List.replicate (N.length - vs.length) Sl.un = List.replicate (N.length - as.length) Sl.un by rw [hlen]] at R2
    exact b2 _ _ (enOf Qr Qe) B B.M B.H _ _ R2 ⟨fun N1 H1 σ ρ R1 q => kr N1 H1 _ (.v .none) R1.ext .non q, fun N1 H1 v r x ok q => kr N1 H1 v r x ok q, fun _ _ _ _ _ z => z.elim, fun _ _ _ _ _ z => z.elim, fun c N1 H1 σ ρ R1 q => ke c N1 H1 R1.ext q⟩ (h as Qr Qe hp)
end

/-- the law's own promise -/
def pLaw : PSpec := fun as Qr _ => ∃ ns : List Int, as = [.fz (ns.map PyData.int)] ∧ ns.length ≤ 63 ∧ Qr (.v (.bool true))
theorem law_sp {S : Src} {K : PySem.W.Frag} {cs : List (Addr × Addr)} {H : Hp} {a : Addr} {ns : List Int} (hST : S.tb = fun b => b ∈ cs.map (·.2)) (hl : ns.length ≤ 63) (hT : ∀ p ∈ cs, H p.2 = some (.tbl #[])) (hS : SqL K H a (ns.map V.int)) :
    spOf K S pLaw [.ref a] H (fun v _ => v = .bl true) fun _ _ _ => False := by
  have tbl : ∀ b, b ∈ cs.map (·.2) → H b = some (.tbl #[]) := fun b hb => by
    obtain ⟨p, hp, rfl⟩ := List.mem_map.mp hb
    exact hT p hp
  let M : Hp := fun b => if b ∈ cs.map (·.2) then none else if b = a then H a else none
  have hM : Ex M H := fun b o e => by
    show H b = some o
    have e : (if b ∈ cs.map (·.2) then none else if b = a then H a else none) = some o := e
    split at e
    · cases e
    · split at e
      · rename_i h
        rw [h]
        exact e
      · cases e
  have Ma : a ∉ cs.map (·.2) → M a = H a := fun h => by
    show (if a ∈ cs.map (·.2) then none else if a = a then H a else none) = H a
    rw [if_neg h, if_pos rfl]
  have hSM : SqL K M a (ns.map V.int) := by
    rcases hS with (h | ⟨o, h⟩) | h
    · exact .inl (.inl (by rw [Ma fun z => by rw [tbl a z] at h; cases h]; exact h))
    · exact .inl (.inr ⟨o, by rw [Ma fun z => by rw [tbl a z] at h; cases h]; exact h⟩)
    · exact .inr h
  let B : Bs := ⟨fun _ => False, fun _ => False, M, H, M⟩
  have ok : B.Ok S := ⟨hM, fun _ z => z.elim, fun _ z => z.elim, fun _ z => z.elim, fun _ z => z.elim, fun _ z => z.elim, fun b hb => if_pos (by rw [hST] at hb; exact hb), fun b hb => ⟨#[], tbl b (by rw [hST] at hb; exact hb), by
    first
      | exact TriplesOk.nil
      | (simp [TriplesOk])
      | (unfold TriplesOk; trivial)⟩⟩
  refine ⟨B, [.fz (ns.map PyData.int)], fun r => r = .v (.bool true), fun _ => False, rfl, ⟨ok, Ext.refl ok (Ex.refl _), rfl, fun i s h => ?_, fun i j s t b ne h1 h2 m1 m2 e1 e2 => ?_⟩, ⟨ns, rfl, hl, rfl⟩, fun N H' v r x hr q => ?_, fun c N H' x z => z⟩
  · cases i with
    | zero =>
      simp at h
      subst h
      exact ⟨some (.ref a), rfl, a, _, rfl, hSM, RpAll.ints⟩
    | succ i => simp at h
  · cases i with
    | zero =>
      simp at h1
      subst h1
      cases m1
    | succ i => simp at h1
  · subst q
    cases hr
    rfl

open PySem.Spec PyProof.Rows in
/-- the tables of the defs at the top are empty when the law is called -/
def Tabs (q : Program) (K : PySem.W.Frag) (h : Heap) : Prop := ∀ (x : Str) (c P : Addr) (d : DefRec), (PyProof.Rows.recsOf q).find? (fun e => e.name == x) = some d → PySem.W.tabIn K x = some (c, P) → PySem.W.CodeHd h c P ∧ h.get? P = some { cls := .none, data := .fields #[] }
open PySem.Spec PyProof.Rows LamX in
theorem walk_ofAll {l : PySem.W.OpenLaw} {n k : Nat} {q : Program} {loose : List Str} {XP : (Str → Option Value) → Heap → Prop} {YP : World → Heap → Prop} {d : DefRec} {K : Params → PySem.W.Frag} {CX : World → CXT} {x : Str}
    (hn : l.most = some n) (hn2 : n ≤ sizeLine) (hdf : d.params.defaults = []) (hr : Room k callerA) (hY : ∀ (w : World) (h : Heap), YP w h → (K w.params).In h)
    (F : ∀ (w : World) (mg : Str → Option Value) (fa : Addr) (h : Heap), YP w h → (K w.params).In h → h.Ns mainGlobals mg → mg d.name = some (.ref fa) → Tabs q (K w.params) h → LawAtS l w (K w.params) (CX w) k n x mg fa h)
    (hCX : ∀ (w : World) (H : Hp) (s : Shared) (e : Value) (s' : Shared), CX w [] H s (fun _ _ _ => False) e s' → False) :
    PySem.W.WalkO q loose XP YP l.row.toRowW d [] (fun f vs => PySem.call f vs) := by
  refine Att.attach_callB hn hdf fun w s₀ s₁ mg mb fa o pm cd doc a vs ns G Y ho hd hcd hmg hobj hints hlen hbits hg => ?_
  have KX := hY w _ Y
  have tabs : Tabs q (K w.params) s₁.heap := fun x c P d hr ht => PySem.W.tab_of G.T KX hr ht
  obtain ⟨fd, cs, sp, hT, nT, C, hb, hsp, hF⟩ := F w mg fa _ Y KX G.T.g hmg tabs
  exact law_callTs KX G.T.g G.T.b G.T.builtins G.T.nolimit hg hT nT C G.T.bmain hobj hints (Nat.le_trans hlen hn2) hr hF hb (fun H hH hS => hsp H a ns hlen hbits hH hS) fun H e s' => hCX w H s₁ e s'
end PD

set_option Elab.async false
set_option linter.all false
set_option maxRecDepth 100000
set_option maxHeartbeats 1000000
/-! More: slices, <= of tuples of ints, a, b, c = x, y, z. -/
namespace PD
open PySem L2 GxR HGx
/-- the items of a slice -/
def cutD (ds : List PyData) (lo hi : Option Int) : List PyData := (ds.drop (HT.sIx ds.length 0 lo)).take (HT.sIx ds.length ds.length hi - HT.sIx ds.length 0 lo)
theorem cut_rp {K : PySem.W.Frag} {M : Hp} {vs : List V} {ds : List PyData} (h : RpAll K M vs ds) (lo hi : Option Int) : RpAll K M (cutV vs lo hi) (cutD ds lo hi) := by
  unfold cutV cutD
  rw [h.length]
  exact (h.drop _).take _
abbrev PTO := PWh → List Sl → (Option Int → List Sl → Prop) → Prop
def SimO (K : PySem.W.Frag) (S : Src) (te : WX → TO) (p : PTO) : Prop := ∀ (W : WX) (wp : PWh) (B : Bs) (N H : Hp) (σ : St) (ρ : List Sl) (Q : Option Int → Hp → Prop) (Q' : Option Int → List Sl → Prop), Rel K S B N H σ ρ → WOk K S B σ W wp → p wp ρ Q' →
  (∀ N' H' v ρ', Rel K S B N' H' σ ρ' → Ex N N' → Q' v ρ' → Q v H') → te W σ H Q
def JO (S : Src) (X : Cx) (e : Option Expr) (p : PTO) : Prop := ∃ te : WX → TO, (∀ W, L2N.Takes X W → PO X e (te W)) ∧ SimO X.K S te p
def poNone : PTO := fun _ ρ Q => Q none ρ
def poSome (p : PTE) : PTO := fun wp ρ Q => p wp ρ fun d ρ1 => match d with
  | .int i => Q (some i) ρ1
  | _ => False
section
variable {S : Src} {X : Cx} {e a b c : Expr} {lo hi : Option Expr} {es : List Expr} {pos p2 : Pos} {pa pb : PTE} {pl ph : PTO}
theorem jo_none : JO S X none poNone := ⟨fun _ => tNoPart, fun _ _ => po_none, fun W wp B N H σ ρ Q Q' R hw q k => k N H none ρ R (Ex.refl _) q⟩
theorem jo_some (ha : JE S X e pa) : JO S X (some e) (poSome pa) := by
  obtain ⟨t, a1, a2⟩ := ha
  refine ⟨fun W => tPart (t W), fun W k => po_some (a1 W k), fun W wp B N H σ ρ Q Q' R hw q k => a2 W wp B N H σ ρ _ _ R hw q fun N1 H1 v d ρ1 R1 e1 r q1 => ?_⟩
  cases r with
  | int i => exact ⟨i, rfl, k N1 H1 (some i) ρ1 R1 e1 q1⟩
  | _ => exact q1.elim
def pSlice (p : PTE) (lo hi : PTO) : PTE := fun wp ρ Q => p wp ρ fun d ρ1 => lo wp ρ1 fun l ρ2 => hi wp ρ2 fun u ρ3 => match d with
  | .list ds => Q (.list (cutD ds l u)) ρ3
  | .tuple ds => Q (.tuple (cutD ds l u)) ρ3
  | _ => False
theorem cut_all {ds : List PyData} {lo hi : Option Int} (h : HT.sIx ds.length 0 lo = 0 ∧ HT.sIx ds.length ds.length hi = ds.length) : cutD ds lo hi = ds := by
  unfold cutD
  rw [h.1, h.2]
  simp
theorem je_slice (ha : JE S X e pa) (hl : JO S X lo pl) (hu : JO S X hi ph) : JE S X (.Subscript e (.Slice lo hi none p2) pos) (pSlice pa pl ph) := by
  obtain ⟨t, a1, a2⟩ := ha
  obtain ⟨tl, b1, b2⟩ := hl
  obtain ⟨th, c1, c2⟩ := hu
  refine ⟨fun W => tSl (fun x lo hi H Q => rSlL X.K x lo hi H Q ∨ rSlA X.K x lo hi H Q) (t W) (tl W) (th W), fun W k => pe_slice (sl_list.or sl_tupA) (a1 W k) (b1 W k) (c1 W k), fun W wp B N H σ ρ Q Q' R hw q k => a2 W wp B N H σ ρ _ _ R hw q fun N1 H1 v d ρ1 R1 e1 r q1 => b2 W wp B N1 H1 σ ρ1 _ _ R1 hw q1 fun N2 H2 l ρ2 R2 e2 q2 => c2 W wp B N2 H2 σ ρ2 _ _ R2 hw q2 fun N3 H3 u ρ3 R3 e3 q3 => ?_⟩
  have r3 := (r.up e2).up e3
  cases d with
  | list ds =>
    cases r3 with
    | lst h1 h2 =>
      refine .inl ⟨_, _, rfl, .inl (.inl (R3.sub _ _ h1)), fun p hp => ?_⟩
      exact k _ _ _ _ ρ3 (R3.newM hp) (((e1.trans e2).trans e3).trans (Ex.new (R3.sub.none hp))) (.lst upd_same ((cut_rp h2 l u).up (Ex.new (R3.sub.none hp)))) q3
  | tuple ds =>
    cases r3 with
    | tup h1 h2 =>
      refine .inr ⟨_, _, rfl, ex_t R3.sub h1, fun hw => ?_, fun _ p hp => ?_⟩
      · rw [h2.length] at hw
        have q3 : Q' (.tuple (cutD ds l u)) ρ3 := q3
        rw [cut_all hw] at q3
        exact k N3 H3 _ _ ρ3 R3 ((e1.trans e2).trans e3) (.tup h1 h2) q3
      · exact k _ _ _ _ ρ3 (R3.newM hp) (((e1.trans e2).trans e3).trans (Ex.new (R3.sub.none hp))) (.tup (.inl (.inl upd_same)) ((cut_rp h2 l u).up (Ex.new (R3.sub.none hp)))) q3
  | _ => exact q3.elim
def leT (ns ms : List Int) : Bool := Ob.lexAt (fun j => decide (ns.getD j 0 = ms.getD j 0)) (fun j => decide (ns.getD j 0 ≤ ms.getD j 0)) (decide (ns.length ≤ ms.length)) 0 (min ns.length ms.length)
/-- <= of tuples of ints -/
def gLeT : G2 := fun dx dy Q => match dx, dy with
  | .tuple xs, .tuple ys => ∃ ns ms : List Int, xs = ns.map PyData.int ∧ ys = ms.map PyData.int ∧ Q (.bool (leT ns ms))
  | _, _ => False
theorem s_leT {K : PySem.W.Frag} : R2S K S (rLeT K) gLeT := fun B N H σ ρ x y dx dy Q Q' R rx ry q k => by
  cases rx with
  | tup h1 h2 =>
    cases ry with
    | tup g1 g2 =>
      obtain ⟨ns, ms, e1, e2, q⟩ := q
      subst e1
      subst e2
      have f1 := h2.of_ints
      have f2 := g2.of_ints
      subst f1
      subst f2
      exact ⟨_, _, ns, ms, rfl, rfl, ex_t R.sub h1, ex_t R.sub g1, k N H _ _ R (Ex.refl _) (.bl _) q⟩
    | _ => exact q.elim
  | _ => first | exact q.elim | (cases ry <;> exact q.elim)
theorem c_leT {k : Nat} (hr : L2H.RoomH k X.A) : Cm S X .LtE gLeT := ⟨_, op_leT (by have := hr.un; omega), s_leT⟩
/-- a, b, c = x, y, z with plain local names -/
def qPar3 (i j l : Nat) (q : PTA) : PTS := fun P ρ => q P.ex ρ fun ds ρ1 => match ds with
  | [d, e, f] => P.nx (((ρ1.set i (.v d)).set j (.v e)).set l (.v f))
  | _ => False
theorem js_par3 (i j l : Nat) {x y z : Str} {px py pz pt : Pos} {kt k2 : Nat} {pt2 : Pos} {qs : PTA} (hc : X.calm = true) (hN : X.N.Nodup) (ha : JA S X [a, b, c] qs) (hi : X.N[i]? = some x := by rfl) (hj : X.N[j]? = some y := by rfl) (hl : X.N[l]? = some z := by rfl) (hij : i ≠ j := by decide) (hil : i ≠ l := by decide) (hjl : j ≠ l := by decide)
    (hx : X.env.scope.names.lookup x = some .local := by rfl) (hy : X.env.scope.names.lookup y = some .local := by rfl) (hz : X.env.scope.names.lookup z = some .local := by rfl)
    (hw : swappedStores [.Tuple [.Name x px, .Name y py, .Name z pz] kt pt] (.Tuple [a, b, c] k2 pt2) X.env = pure (some [x, y, z]) := by rfl)
    (hs : swapsWithSole [.Tuple [.Name x px, .Name y py, .Name z pz] kt pt] (.Tuple [a, b, c] k2 pt2) pos.line X.env = pure false := by rfl) :
    JS S X (.Assign [.Tuple [.Name x px, .Name y py, .Name z pz] kt pt] (.Tuple [a, b, c] k2 pt2) pos) (qPar3 i j l qs) := by
  obtain ⟨t, a1, a2⟩ := ha
  refine ⟨fun W => tPar3 i j l (t W), fun W k _ => ps_par3 hc hN hi hj hl hij hil hjl hx hy hz (a1 W k) hw hs, fun W D P B N H σ ρ R C q => a2 W P.ex B N H σ ρ _ _ R C.w q fun N1 H1 vs ds ρ1 R1 _ r q1 => ?_⟩
  unfold qPar3 at q
  match vs, ds, r, q1 with
  | _, [d, e, f], .cons r1 (.cons r2 (.cons r3 .nil)), q1 => exact ⟨_, _, _, rfl, C.nx N1 H1 _ _ (((R1.setV r1).setV r2).setV r3) q1⟩
end
end PD

set_option Elab.async false
set_option linter.all false
set_option maxRecDepth 100000
set_option maxHeartbeats 1000000
/-! More: tuple(x). -/
namespace PD
open PySem L2 GxR HGx
abbrev rTupC (K : PySem.W.Frag) : List V → Hp → VK → Prop := fun xs H Q => ∃ p ys, xs = [.ref p] ∧ ((SqL K H p ys ∧ ∀ l, H l = none → Q (.ref l) (upd H l (.tup ys))) ∨ (SqT K H p ys ∧ Q (.ref p) H))
/-- tuple(x), x a list or a tuple -/
def gTupC : GC := fun ds Q => match ds with
  | [.list xs] => Q (.tuple xs)
  | [.tuple xs] => Q (.tuple xs)
  | _ => False
theorem cs_tuple {S : Src} {K : PySem.W.Frag} : CS K S (rTupC K) gTupC := fun B N H σ ρ vs ds Q Q' R r q k => by
  cases r with
  | nil => exact q.elim
  | cons h t =>
    cases t with
    | cons _ _ => cases h <;> exact q.elim
    | nil =>
      cases h with
      | lst h1 h2 => exact ⟨_, _, rfl, .inl ⟨.inl (.inl (R.sub _ _ h1)), fun l hl => k _ _ _ _ (R.newM hl) (Ex.new (R.sub.none hl)) (.tup (.inl (.inl upd_same)) (h2.up (Ex.new (R.sub.none hl)))) q⟩⟩
      | tup h1 h2 => exact ⟨_, _, rfl, .inr ⟨ex_t R.sub h1, k _ _ _ _ R (Ex.refl _) (.tup h1 h2) q⟩⟩
      | _ => exact q.elim
section
variable {S : Src} {X : Cx} {p pos : Pos}
/-- tuple(x), x a name: x is only looked at -/
def pTupN (i : Nat) : PTE := fun _ ρ Q => match ρ[i]? with
  | some (.own ds) => Q (.tuple ds) ρ
  | some (.brw ds) => Q (.tuple ds) ρ
  | some (.fz ds) => Q (.tuple ds) ρ
  | some (.v (.list ds)) => Q (.tuple ds) ρ
  | some (.v (.tuple ds)) => Q (.tuple ds) ρ
  | _ => False
theorem je_tupN (i : Nat) {x : Str} {px : Pos} (hg : Gl X "tuple") (hm : X.mg "tuple" = none) (hN : X.N[i]? = some x := by rfl) (hv : Vis X.env.scope x := by first | exact Or.inl rfl | exact Or.inr (Or.inl rfl) | exact Or.inr (Or.inr rfl)) (hd : (x == ("__debug__" : Str)) = false := by decide)
    (hcd : (x == ("__classdict__" : Str)) = false := by decide) (hs : starEach [.Name x px] X.env = (false, eval (.Name x px) X.env) :: starEach [] X.env := by rfl) : JE S X (.Call (.Name "tuple" p) [.Name x px] [] pos) (pTupN i) := by
  refine ⟨fun _ => tCB (rTupC X.K) (tCons (tVar i) tNil), fun W k => pe_callTy call_tuple_of hg hm (by decide +kernel) (pa_cons (pv i hN hv hd hcd) pa_nil hs) (by decide) (by decide) hs (by rfl), fun W wp B N H σ ρ Q Q' R hw q k => ?_⟩
  have main : ∀ ds a vs, σ[i]? = some (some (.ref a)) → SqL X.K H a vs → RpAll X.K N vs ds → Q' (.tuple ds) ρ → tCB (rTupC X.K) (tCons (tVar i) tNil) σ H Q := fun ds a vs ex hq hr q =>
    ⟨.ref a, ex, a, vs, rfl, .inl ⟨hq, fun l hl => k _ _ _ _ ρ (R.newM hl) (Ex.new (R.sub.none hl)) (.tup (.inl (.inl upd_same)) (hr.up (Ex.new (R.sub.none hl)))) q⟩⟩
  unfold pTupN at q
  split at q
  · rename_i ds h
    obtain ⟨x, ex, a, vs, rfl, o⟩ := R.ok i _ h
    exact main ds a vs ex (.inl (.inl o.1)) o.2.1 q
  · rename_i ds h
    obtain ⟨x, ex, a, vs, rfl, o⟩ := R.ok i _ h
    exact main ds a vs ex (.inl (.inl o.1)) o.2.1 q
  · rename_i ds h
    obtain ⟨x, ex, a, vs, rfl, h1, h2⟩ := R.ok i _ h
    exact main ds a vs ex (ex_l R.sub h1) h2 q
  · rename_i ds h
    obtain ⟨x, ex, v, rfl, r⟩ := R.ok i _ h
    cases r with
    | lst h1 h2 => exact main ds _ _ ex (.inl (.inl (R.sub _ _ h1))) h2 q
  · rename_i ds h
    obtain ⟨x, ex, v, rfl, r⟩ := R.ok i _ h
    cases r with
    | tup h1 h2 => exact ⟨_, ex, _, _, rfl, .inr ⟨ex_t R.sub h1, k N H _ _ ρ R (Ex.refl _) (.tup h1 h2) q⟩⟩
  · exact q.elim
/-- xs[b] = e, xs a name of an own list -/
def qSetIx (i : Nat) (pa pb : PTE) : PTS := fun P ρ => pa P.ex ρ fun d ρ1 => (∃ ds, ownAt ρ1 i = some ds) ∧ pb P.ex ρ1 fun k ρ2 => match k with
  | .int k => match ownAt ρ2 i with
    | some ds => ∃ j, ixN ds.length k = some j ∧ P.nx (setOwn ρ2 i (ds.set j d))
    | none => False
  | _ => False
theorem js_setIx (i : Nat) {x : Str} {px pt : Pos} {e b : Expr} {pa pb : PTE} (ha : JE S X e pa) (hb : JE S X b pb) (hN : X.N[i]? = some x := by rfl) (hv : Vis X.env.scope x := by first | exact Or.inl rfl | exact Or.inr (Or.inl rfl) | exact Or.inr (Or.inr rfl)) (hd : (x == ("__debug__" : Str)) = false := by decide)
    (hcd : (x == ("__classdict__" : Str)) = false := by decide)
    (hg : ∀ v, assign (.Subscript (.Name x px) b pt) X.env v = (do
      let ov ← holding [v] (eval (.Name x px) X.env)
      let iv ← holding [v, ov] (eval b X.env)
      standAt pt
      holding [v, ov, iv] (setItem ov iv v)
      release [v, ov, iv] []) := by intro _; rfl)
    (hs : swapsWithSole [.Subscript (.Name x px) b pt] e pos.line X.env = pure false := by rfl) (hw : swappedStores [.Subscript (.Name x px) b pt] e X.env = pure none := by rfl)
    (h1 : (assignEach [.Subscript (.Name x px) b pt] X.env).map (·.2) = [assign (.Subscript (.Name x px) b pt) X.env] := by rfl) : JS S X (.Assign [.Subscript (.Name x px) b pt] e pos) (qSetIx i pa pb) := by
  obtain ⟨t, a1, a2⟩ := ha
  obtain ⟨u, b1, b2⟩ := hb
  refine ⟨fun W => tAsg (t W) (L2.gSub (tVar i) (u W) rSetL), fun W k _ => ps_asg (a1 W k) (pg_sub (pv i hN hv hd hcd) (b1 W k) set_list hg) hs hw h1, fun W D P B N H σ ρ R C q => a2 W P.ex B N H σ ρ _ _ R C.w q fun N1 H1 v d ρ1 R1 e1 r q1 => ?_⟩
  obtain ⟨⟨ds0, h0⟩, q1⟩ := q1
  obtain ⟨a, vs0, ex, g1, _⟩ := R1.ownAt h0
  refine ⟨.ref a, ex, b2 W P.ex B N1 H1 σ ρ1 _ _ R1 C.w q1 fun N2 H2 y dy ρ2 R2 e2 r2 q2 => ?_⟩
  cases r2 with
  | int j =>
    cases h2 : PD.ownAt ρ2 i with
    | none => simp only [h2] at q2
    | some ds =>
      simp only [h2] at q2
      obtain ⟨j', hj, q2⟩ := q2
      obtain ⟨a', vs, ex', k1, k2, k3⟩ := R2.ownAt h2
      rw [ex] at ex'
      cases ex'
      exact ⟨a, vs, _, j', rfl, rfl, k1, by rw [k2.length]; exact hj, C.nx N2 _ σ _ (k3 _ _ (RpAll.set (r.up e2) j' k2)) q2⟩
  | _ => exact q2.elim
end
end PD

set_option Elab.async false
set_option linter.all false
set_option maxRecDepth 100000
set_option maxHeartbeats 1000000
/-! sorted(xs), xs a list of tuples of ints and texts, each place of one kind. -/
namespace HGx
open PySem L2 PyProof.Rows
abbrev Ky := List (Int ⊕ List Nat)
/-- the key of a tuple's items: an int or a text at each place, as the shape says -/
def keyV (shape : Nat → Bool) : Nat → List V → Option Ky
  | _, [] => some []
  | i, .int n :: r => if shape i = true then none else (keyV shape (i + 1) r).map (Sum.inl n :: ·)
  | i, .str x :: r => if shape i = true then (keyV shape (i + 1) r).map (Sum.inr x.cps.toList :: ·) else none
  | _, _ :: _ => none
theorem keyV_raw {shape : Nat → Bool} : ∀ {i : Nat} {xs : List V} {us : List Value}, Vals xs us → tupItems shape i us = keyV shape i xs
  | _, _, _, .nil => rfl
  | i, .int n :: xs, _, .cons r t => by
    obtain ⟨tk, rfl⟩ := r
    simp only [tupItems, keyV, keyV_raw t]
  | i, .str n :: xs, _, .cons r t => by
    obtain ⟨tk, rfl⟩ := r
    simp only [tupItems, keyV, keyV_raw t]
  | i, .bl b :: xs, _, .cons r t => by
    obtain rfl := r
    rfl
  | i, .non :: xs, _, .cons r t => by
    obtain rfl := r
    rfl
  | i, .ref b :: xs, _, .cons r t => by
    obtain rfl := r
    rfl
  | i, .ty b :: xs, _, .cons r t => by
    obtain rfl := r
    rfl
  | i, .byt b :: xs, _, .cons r t => by
    obtain ⟨tk, rfl⟩ := r
    rfl
  | i, .flt b :: xs, _, .cons r t => by
    obtain ⟨tk, rfl⟩ := r
    rfl
abbrev ltK (a b : Ky) : Bool := lexLt itemOrd a b
theorem swoK {α : Type} (k : α → Ky) : SrtO.Swo fun x y => ltK (k x) (k y) := by
  refine ⟨fun x y h => ?_, fun x y z h1 h2 => ?_⟩
  · rcases SrtO.bcase (ltK (k y) (k x)) with q | q
    · exact absurd (lex_trans _ _ _ h q) (by rw [lex_irrefl]; decide)
    · exact q
  · rcases SrtO.bcase (ltK (k z) (k x)) with q | q
    · rcases lex_negTrans _ (k y) _ q with r | r
      · exact absurd (h2.symm.trans r) (by decide)
      · exact absurd (h1.symm.trans r) (by decide)
    · exact q
def KeyAt (K : PySem.W.Frag) (H : Hp) (shape : Nat → Bool) (x : V) (k : Ky) : Prop := ∃ t its, x = V.ref t ∧ SqT K H t its ∧ its ≠ [] ∧ keyV shape 0 its = some k
def rSortM (K : PySem.W.Frag) : List V → Hp → VK → Prop := fun vs H Q => ∃ (a : Addr) (xs : List V) (shape : Nat → Bool), vs = [V.ref a] ∧ SqL K H a xs ∧
  (∀ x ∈ xs, ∃ k, KeyAt K H shape x k) ∧
  ∀ ys p, ys.Perm xs → ys.Pairwise (fun x y => ∀ k l, KeyAt K H shape x k → KeyAt K H shape y l → ltK l k = false) → H p = none → Q (.ref p) (upd H p (.lst ys))
/-- what stands of one tuple -/
theorem tupAt {X : Cx} {pins : List (Addr × Obj)} {σ : L2.St} {H : Hp} {s : Shared} {t : Addr} {its : List V} {shape : Nat → Bool} {k : Ky} (I : Inv X pins σ H s) (h : SqT X.K H t its) (hne : its ≠ []) (hk : keyV shape 0 its = some k) (h' : Heap) (kp : ∀ b o, s.heap.get? b = some o → h'.get? b = some o) :
    (∃ f, TupOf h' shape (.ref t) f) ∧ tupKey h' shape (.ref t) = some k := by
  obtain ⟨us, r, ⟨o, ho, hc, n, hd⟩, _⟩ := I.tuple h
  have ho' := kp _ _ ho
  refine ⟨?_, ?_⟩
  · cases r with
    | nil => exact absurd rfl hne
    | @cons x u xs us r t2 =>
      refine ⟨u, _, o, _, n, rfl, ho', hc, hd, by simp, fun e => ?_, fun e => ?_⟩
      · cases x with
        | int j => obtain ⟨tk, rfl⟩ := r; exact ⟨_, _, rfl⟩
        | str j => simp [keyV, e] at hk
        | _ => simp [keyV] at hk
      · cases x with
        | str j => obtain ⟨tk, rfl⟩ := r; exact ⟨_, _, rfl⟩
        | int j => simp [keyV, e] at hk
        | _ => simp [keyV] at hk
  · unfold tupKey
    dsimp only
    rw [ho']
    dsimp only
    rw [hd]
    exact (keyV_raw r).trans hk
section
variable {X : Cx}
theorem tups_of {h : Heap} {shape : Nat → Bool} : ∀ {vs : List Value}, (∀ v ∈ vs, ∃ f, TupOf h shape v f) → ∃ fs, TupsOf h shape vs fs ∧ fs.length = vs.length
  | [], _ => ⟨[], .nil, rfl⟩
  | v :: vs, hp => by
    obtain ⟨fs, h1, h2⟩ := tups_of (vs := vs) fun u hu => hp u (List.mem_cons_of_mem _ hu)
    obtain ⟨f, hf⟩ := hp v List.mem_cons_self
    exact ⟨f :: fs, .cons hf h1, by rw [List.length_cons, List.length_cons, h2]⟩
theorem cr_sortedM : CallR X (.builtin "sorted") (rSortM X.K) := by
  intro pins s σ H vs us Q I r h
  obtain ⟨a, xs, shape, rfl, hs, hx, q⟩ := h
  obtain ⟨its, rv, hl, hz⟩ := I.list hs
  obtain ⟨u, rfl, ru⟩ := vals1 r
  obtain rfl : u = Value.ref a := ru
  obtain ⟨e1, e2⟩ := refs_back rv fun x m => by
    obtain ⟨k, t, _, e, _⟩ := hx x m
    exact ⟨t, e⟩
  have fact : ∀ v ∈ its, ∃ k, ∀ h' : Heap, (∀ b o, s.heap.get? b = some o → h'.get? b = some o) → (∃ f, TupOf h' shape v f) ∧ tupKey h' shape v = some k := fun v hv => by
    obtain ⟨t, rfl⟩ := e2 v hv
    have hm : V.ref t ∈ xs := by rw [e1]; exact List.mem_map.mpr ⟨_, hv, rfl⟩
    obtain ⟨k, t', ts, e, ht, hne, hk⟩ := hx _ hm
    cases e
    exact ⟨k, tupAt I ht hne hk⟩
  refine SrtO.sorted_ord (ltv := fun u v => ltK ((tupKey s.heap shape u).getD []) ((tupKey s.heap shape v).getD [])) (swoK fun u => (tupKey s.heap shape u).getD []) hl.isList (by rw [← rv.length]; exact hz) (fun h2 h₁ b hb kk h' keep => ?_) fun out h1 h2 => ?_
  · have kp : ∀ b o, s.heap.get? b = some o → h'.get? b = some o := fun c o e => keep c o (kk c o e).1 (kk c o e).2
    refine ⟨tuples' true, fun Q E hq => ?_, fun p q hp hq => ?_⟩
    · obtain ⟨fs, ht, hf⟩ := tups_of (h := h') (shape := shape) (vs := its) fun v hv => let ⟨k, hk⟩ := fact v hv; (hk h' kp).1
      exact tup_kind (s := { s with heap := h' }) (by omega) ht hq
    · obtain ⟨k1, f1⟩ := fact _ hp
      obtain ⟨k2, f2⟩ := fact _ hq
      refine tup_ltAt (s := { s with heap := h' }) (shape := shape) true _ _ p.1 q.1 _ _ (f1 h' kp).2 (f2 h' kp).2 ⟨rfl, ?_⟩
      show _ = ltK ((tupKey s.heap shape p.1).getD []) ((tupKey s.heap shape q.1).getD [])
      rw [(f1 s.heap fun _ _ e => e).2, (f2 s.heap fun _ _ e => e).2]
      rfl
  · have h3 : ∀ u ∈ out, ∃ a, u = Value.ref a := fun u hu => e2 u (h2.perm.mem_iff.mp hu)
    have hp : (out.map backV).Perm xs := by
      rw [e1]
      exact h2.perm.map _
    have kp : ∀ b o, s.heap.get? b = some o → (sortedAll s.heap its out.toArray).get? b = some o := fun b o e => sortedAll_old e
    have hd : s.heap.objs.size ≤ s.heap.objs.size + 1 := Nat.le_succ _
    obtain ⟨n, hn⟩ : ∃ n, (sortedAll s.heap its out.toArray).get? (s.heap.objs.size + 1) = some (seqObj "list" out.toArray n) := sortedAll_at s.heap its out.toArray
    refine ⟨.ref (s.heap.objs.size + 1), upd H (s.heap.objs.size + 1) (.lst (out.map backV)), I.laid (t' := s.toks) kp hd ⟨?_, out, n, vals_back h3, hn⟩, rfl, q _ _ hp (List.pairwise_map.mpr (h1.imp_of_mem fun {u v} hu hv huv k l hk hl => ?_)) (I.hok.fresh hd)⟩
    · rw [hp.length_eq]
      exact hz
    · obtain ⟨tu, rfl⟩ := h3 u hu
      obtain ⟨tv, rfl⟩ := h3 v hv
      obtain ⟨t1, i1, x1, y1, n1, z1⟩ := hk
      obtain ⟨t2, i2, x2, y2, n2, z2⟩ := hl
      cases x1
      cases x2
      have a1 := (tupAt I y1 n1 z1 s.heap fun _ _ e => e).2
      have a2 := (tupAt I y2 n2 z2 s.heap fun _ _ e => e).2
      have huv' : ltK ((tupKey s.heap shape (.ref tv)).getD []) ((tupKey s.heap shape (.ref tu)).getD []) = false := huv
      rw [a1, a2] at huv'
      exact huv'
end
end HGx

set_option Elab.async false
set_option linter.all false
set_option maxRecDepth 100000
set_option maxHeartbeats 1000000
/-! sorted(xs) told over data: xs a list of tuples of ints and texts. -/
namespace PD
open PySem L2 GxR HGx
def keyD (shape : Nat → Bool) : Nat → List PyData → Option Ky
  | _, [] => some []
  | i, .int n :: r => if shape i = true then none else (keyD shape (i + 1) r).map (Sum.inl n :: ·)
  | i, .str x :: r => if shape i = true then (keyD shape (i + 1) r).map (Sum.inr x.cps.toList :: ·) else none
  | _, _ :: _ => none
theorem key_rp {K : PySem.W.Frag} {M : Hp} {shape : Nat → Bool} : ∀ {i : Nat} {vs : List V} {ds : List PyData} {k : Ky}, RpAll K M vs ds → keyD shape i ds = some k → keyV shape i vs = some k
  | _, _, _, _, .nil, h => h
  | i, _, .int n :: ds, k, .cons r t, h => by
    cases r
    unfold keyD at h
    unfold keyV
    split at h
    · cases h
    · rename_i hs
      rw [if_neg hs]
      cases e : keyD shape (i + 1) ds with
      | none => rw [e] at h; cases h
      | some l => rw [e] at h; rw [key_rp t e]; exact h
  | i, _, .str n :: ds, k, .cons r t, h => by
    cases r
    unfold keyD at h
    unfold keyV
    split at h
    · rename_i hs
      rw [if_pos hs]
      cases e : keyD shape (i + 1) ds with
      | none => rw [e] at h; cases h
      | some l => rw [e] at h; rw [key_rp t e]; exact h
    · cases h
theorem rp_perm {K : PySem.W.Frag} {M : Hp} {ys xs : List V} (p : ys.Perm xs) : ∀ {ds : List PyData}, RpAll K M xs ds → ∃ es, RpAll K M ys es ∧ es.Perm ds := by
  induction p with
  | nil => intro ds h; cases h; exact ⟨[], .nil, .nil⟩
  | cons x p ih =>
    intro ds h
    cases h with
    | cons r t => obtain ⟨es, h1, h2⟩ := ih t; exact ⟨_, .cons r h1, h2.cons _⟩
  | swap x y l =>
    intro ds h
    cases h with
    | cons r t => cases t with
      | cons r2 t => exact ⟨_, .cons r2 (.cons r t), List.Perm.swap _ _ _⟩
  | trans p q ih1 ih2 =>
    intro ds h
    obtain ⟨es, h1, h2⟩ := ih2 h
    obtain ⟨fs, h3, h4⟩ := ih1 h1
    exact ⟨fs, h3, h4.trans h2⟩
theorem rp_mem {K : PySem.W.Frag} {M : Hp} : ∀ {vs : List V} {ds : List PyData} {v : V}, RpAll K M vs ds → v ∈ vs → ∃ d ∈ ds, Rp K M v d
  | _, _, v, .cons r t, h => by
    rcases List.mem_cons.mp h with e | h
    · subst e; exact ⟨_, List.mem_cons_self, r⟩
    · obtain ⟨d, h1, h2⟩ := rp_mem t h; exact ⟨d, List.mem_cons_of_mem _ h1, h2⟩
theorem rp_mem' {K : PySem.W.Frag} {M : Hp} : ∀ {vs : List V} {ds : List PyData} {d : PyData}, RpAll K M vs ds → d ∈ ds → ∃ v ∈ vs, Rp K M v d
  | _, _, v, .cons r t, h => by
    rcases List.mem_cons.mp h with e | h
    · subst e; exact ⟨_, List.mem_cons_self, r⟩
    · obtain ⟨d, h1, h2⟩ := rp_mem' t h; exact ⟨d, List.mem_cons_of_mem _ h1, h2⟩
theorem rp_pair {K : PySem.W.Frag} {M : Hp} {R : V → V → Prop} {T : PyData → PyData → Prop} (G : PyData → Prop) (hh : ∀ x y d e, Rp K M x d → Rp K M y e → G d → G e → R x y → T d e) : ∀ {ys : List V} {es : List PyData}, RpAll K M ys es → (∀ d ∈ es, G d) → ys.Pairwise R → es.Pairwise T
  | _, _, .nil, _, _ => .nil
  | _, _, .cons r t, g, h => by
    obtain ⟨h1, h2⟩ := List.pairwise_cons.mp h
    refine List.pairwise_cons.mpr ⟨fun e he => ?_, rp_pair G hh t (fun d hd => g d (List.mem_cons_of_mem _ hd)) h2⟩
    obtain ⟨v, hv, rv⟩ := rp_mem' t he
    exact hh _ _ _ _ r rv (g _ List.mem_cons_self) (g _ (List.mem_cons_of_mem _ he)) (h1 v hv)
def tupOk (shape : Nat → Bool) (d : PyData) : Prop := ∃ es k, d = .tuple es ∧ es ≠ [] ∧ keyD shape 0 es = some k
def ltD (shape : Nat → Bool) (d e : PyData) : Bool := match d, e with
  | .tuple a, .tuple b => ltK ((keyD shape 0 a).getD []) ((keyD shape 0 b).getD [])
  | _, _ => false
section
variable {S : Src} {X : Cx} {e : Expr} {p pos : Pos} {pa : PTE}
/-- sorted(x), x a list of tuples -/
def pSort (p : PTE) : PTR := fun wp ρ Q => p wp ρ fun d ρ1 => match d with
  | .list ds => ∃ shape, (∀ d ∈ ds, tupOk shape d) ∧ ∀ es, es.Perm ds → es.Pairwise (fun d e => ltD shape e d = false) → Q (.own es) ρ1
  | _ => False
theorem jr_sort (hg : Gl X "sorted") (hm : X.mg "sorted" = none) (ha : JE S X e pa) (hs : starEach [e] X.env = (false, eval e X.env) :: starEach [] X.env := by rfl) :
    JR S X (.Call (.Name "sorted" p) [e] [] pos) (pSort pa) := by
  obtain ⟨t, a1, a2⟩ := ha
  refine ⟨fun W => tCB (rSortM X.K) (tCons (t W) tNil), fun W k => pe_callB cr_sortedM hg hm (by decide +kernel) (pa_cons (a1 W k) pa_nil hs) (by decide) (by decide) hs (by rfl), fun W wp B N H σ ρ Q Q' R hw q k => a2 W wp B N H σ ρ _ _ R hw q fun N1 H1 v d ρ1 R1 e1 r q1 => ?_⟩
  cases r with
  | lst h1 h2 =>
    obtain ⟨shape, g, q1⟩ := q1
    have key : ∀ x d, Rp X.K N1 x d → tupOk shape d → ∃ es k, d = .tuple es ∧ keyD shape 0 es = some k ∧ KeyAt X.K H1 shape x k := fun x d r o => by
      obtain ⟨es, k, rfl, hne, hk⟩ := o
      cases r with
      | @tup a xs _ h3 h4 => exact ⟨es, k, rfl, hk, _, _, rfl, ex_t R1.sub h3, fun z => hne (by subst z; cases h4; rfl), key_rp h4 hk⟩
    refine ⟨_, _, shape, rfl, .inl (.inl (R1.sub _ _ h1)), fun x hx => ?_, fun ys l hp hw hl => ?_⟩
    · obtain ⟨d, hd, r⟩ := rp_mem h2 hx
      obtain ⟨es, k, _, _, hk⟩ := key x d r (g d hd)
      exact ⟨k, hk⟩
    · obtain ⟨es, h3, h4⟩ := rp_perm hp h2
      have hq := q1 es h4 (rp_pair (T := fun d e => ltD shape e d = false) (tupOk shape) (fun x y d e rx ry gd ge hr => by
        obtain ⟨es, k, rfl, w1, w2⟩ := key x d rx gd
        obtain ⟨fs, l, rfl, w3, w4⟩ := key y e ry ge
        have := hr k l w2 w4
        show ltK ((keyD shape 0 fs).getD []) ((keyD shape 0 es).getD []) = false
        rw [w1, w3]
        exact this) h3 (fun d hd => g d (h4.mem_iff.mp hd)) hw)
      exact k N1 _ (.ref l) (.own _) ρ1 (R1.newH hl) e1 ⟨l, _, rfl, upd_same, h3, R1.sub.none hl, R1.fresh hl, R1.away hl⟩ hq
  | _ => exact q1.elim
end
end PD

set_option Elab.async false
set_option linter.all false
set_option maxRecDepth 100000
set_option maxHeartbeats 1000000
/-! {'a': 1, ..}[e]: a display of texts and ints, looked up at once. -/
namespace PD
open PySem L2 GxR HGx
def dKs (kvs : List (Str × Int)) : List (Key × V) := kvs.map fun p => (Sum.inr p.1, V.int p.2)
def dTrs (kvs : List (Str × Int)) : List (TE × TE) := kvs.map fun p => (tC (.str p.1), tC (.int p.2))
theorem dPairs {σ : St} {H : Hp} : ∀ {kvs : List (Str × Int)} {Q : List (V × V) → Hp → Prop}, Q ((dKs kvs).map fun kv => (kV kv.1, kv.2)) H → tPairs (dTrs kvs) σ H Q
  | [], _, h => h
  | p :: r, Q, h => dPairs (kvs := r) (Q := fun ps H3 => Q ((V.str p.1, V.int p.2) :: ps) H3) h
def dVal (kvs : List (Str × Int)) (x : Str) : Option Int := (kvs.find? fun p => decide (p.1 = x)).map (·.2)
theorem dVal_v {x : Str} {n : Int} : ∀ {kvs : List (Str × Int)}, dVal kvs x = some n → valV (dKs kvs) (Sum.inr x) = some (V.int n)
  | [], h => by cases h
  | p :: r, h => by
    unfold dVal at h
    unfold valV dKs
    rw [List.find?_cons] at h
    rw [List.map_cons, List.find?_cons]
    by_cases e : p.1 = x
    · rw [decide_eq_true e] at h
      have e2 : ((Sum.inr p.1 : Key) = Sum.inr x) := by rw [e]
      rw [decide_eq_true e2]
      cases h
      rfl
    · rw [decide_eq_false e] at h
      have e2 : ¬ ((Sum.inr p.1 : Key) = Sum.inr x) := fun z => e (Sum.inr.inj z)
      rw [decide_eq_false e2]
      exact dVal_v (kvs := r) h
section
variable {S : Src} {X : Cx} {b : Expr} {p pos : Pos} {pb : PTE}
def pDictIx (kvs : List (Str × Int)) (pb : PTE) : PTE := fun wp ρ Q => pb wp ρ fun d ρ1 => match d with
  | .str x => ∃ n, dVal kvs x = some n ∧ Q (.int n) ρ1
  | _ => False
theorem je_dictIx {k : Nat} (kvs : List (Str × Int)) {keys : List (Option Expr)} {vals : List Expr} (hr : Room (k + 1) X.A) (hp : PPs X p keys vals (dTrs kvs)) (hb : JE S X b pb) (hs : NoSl b := by exact fun _ _ => rfl)
    (hall : keys.all (·.isSome) = true := by rfl) (hl : keys.length = vals.length := by rfl) (h0 : keys ≠ [] := by exact fun z => nomatch z) (h15 : keys.length ≤ 15 := by decide)
    (hk : kvs.length ≤ 15 := by decide) (hm : mergeK [] (dKs kvs) = dKs kvs := by rfl) : JE S X (.Subscript (.Dict keys vals p) b pos) (pDictIx kvs pb) := by
  obtain ⟨t, b1, b2⟩ := hb
  refine ⟨fun W => tDGet (tDisp (dTrs kvs)) (t W), fun W k => pe_dget (by have := hr.units; omega) (pe_disp hp hall hl h0 h15) (b1 W k) hs, fun W wp B N H σ ρ Q Q' R hw q k => ?_⟩
  intro l hl
  refine dPairs ⟨upd_same, dKs kvs, rfl, by unfold dKs; rw [List.length_map]; exact hk, ?_⟩
  rw [upd_upd, hm]
  refine b2 W wp B _ _ σ ρ _ _ (R.newM hl) hw q fun N2 H2 y dy ρ2 R2 e2 r2 q2 => ?_
  cases r2 with
  | str x =>
    obtain ⟨n, hn, q2⟩ := q2
    refine ⟨l, .int n, rfl, .inl ⟨dKs kvs, Sum.inr x, .inl (R2.sub _ _ (e2 _ _ upd_same)), rfl, (dVal_v hn).symm⟩, k N2 H2 _ _ ρ2 R2 ((Ex.new (R.sub.none hl)).trans e2) (.int n) q2⟩
  | _ => exact q2.elim
end
end PD

set_option Elab.async false
set_option linter.all false
set_option maxRecDepth 100000
set_option maxHeartbeats 2000000
/-! Loops end while an exception is handled: lists, pairs as targets, list comprehensions. -/
namespace HHot
open PySem PySem.Spec PyProof.Rows HotX L2
open L2H (HotC Hot1 RoomH PinOk cxH inv_startH)

section
variable {prog : Program} {w : World} {A : Around} {s : Shared} {x1 : Addr}
theorem stop_hot {α : Type} {E : Value → Shared → Prop} {Q : α → Shared → Prop} (hot : HotAt A x1 s.heap)
    (hE : ∀ (h' : Heap) (n : Addr), (∀ b u, s.heap.get? b = some u → h'.get? b = some u) → (∃ o, h'.get? n = some o ∧ o.cls = .type "StopIteration") → E (.ref n) { s with heap := h' }) :
    wpAny (model prog w) A (newExc (.type "StopIteration") [] >>= fun e => (raiseNew e : Sem α)) Q E s := by
  obtain ⟨hd, ob, vals, stands, isF, ctx⟩ := hot
  refine wpAny_bind ?_
  simp only [newExc, newTuple]
  refine wpAny_bind (wpAny_newObj_type (wpAny_bind (m := firstArgMember _ _) (wpAny_of_eq (a := Value.none) (by first | rfl | (simp only [firstArgMember]; rfl)) (wpAny_newObj_type ?_ (by size_fits)))) (by size_fits))
  refine raiseNew_hot ⟨hd, ob, vals, Heap.get?_push_of_some _ (Heap.get?_push_of_some _ stands), isF, ctx⟩ (Nat.ne_of_lt (Heap.lt_size (Heap.get?_push_of_some _ stands))) (Heap.get?_push_size _ rfl) rfl (by first | (simp; done) | (simp; omega) | (simp only [Array.size_append]; simp; omega)) ?_
  refine hE _ _ (fun b u e => ?_) ⟨_, Heap.get?_update_self _ (Heap.get?_push_size _ rfl) rfl, rfl⟩
  rw [Heap.get?_update_other _ _ (Nat.ne_of_gt (Heap.lt_size (Heap.get?_push_of_some _ e)))]
  exact Heap.get?_push_of_some _ (Heap.get?_push_of_some _ e)
theorem list_end_hot {it l : Addr} {i : Nat} {items : Array Value} {E : Value → Shared → Prop} {Q : Option Value → Shared → Prop} (hot : HotAt A x1 s.heap) (hne : x1 ≠ it)
    (hit : s.heap.IsListIter it l i) (hl : s.heap.IsList l items) (none : items[i]? = none) (hQ : ∀ h', Heap.ExtBut it s.heap h' → Q .none { s with heap := h' }) : wpAny (model prog w) A (pyNext (.ref it)) Q E s := by
  obtain ⟨oi, gi, ci, di⟩ := id hit
  obtain ⟨ol, gl, _, nl, dl⟩ := hl
  obtain ⟨hd, ob, vals, stands, isF, ctx⟩ := hot
  unfold pyNext
  refine wpAny_bind (wpAny_attempt (wpAny_callSpecial?_slot (name := Str.ofString "__next__") hit.typeIs slot_listiter_next (wpAny_call_entry slot_listiter_next hit.typeIs entry_listiter_next ?_ (args_listiter_next _))))
  show wpAny _ _ (field (.ref it) 0 >>= _) _ _ s
  refine wpAny_bind (wpAny_field gi di (x := .ref l) rfl ?_)
  show wpAny _ _ (if (Value.ref l == Value.none) = true then _ else _) _ _ s
  rw [if_neg (fun no => nomatch (show false = true from no) : ¬ ((Value.ref l == Value.none) = true))]
  show wpAny _ _ (field (.ref it) 1 >>= _) _ _ s
  refine wpAny_bind (wpAny_field gi di (x := .int i 0) rfl ?_)
  show wpAny _ _ (seqItems? (.ref l) >>= _) _ _ s
  refine wpAny_bind (wpAny_seqItems gl dl ?_)
  simp only [Int.toNat_natCast, none]
  refine wpAny_bind (wpAny_rule (wpAny_bind (wpAny_setField gi di (by simp) ?_)))
  refine stop_hot (s := { s with heap := _ }) (x1 := x1) ⟨hd, ob, vals, by rw [Heap.get?_update_other _ _ (Ne.symm hne)]; exact stands, isF, ctx⟩ fun h' n up ⟨o, go, co⟩ => ?_
  refine wpAny_bind (wpAny_isInstance (T := "StopIteration") (b := true) ⟨o, go, co⟩ isSubtype_stop ?_)
  exact wpAny_pure (hQ _ fun b u nb e => up b u (by rw [Heap.get?_update_other _ _ (Ne.symm nb)]; exact e))
theorem tup_end_hot {it l : Addr} {i : Nat} {items : Array Value} {E : Value → Shared → Prop} {Q : Option Value → Shared → Prop} (hot : HotAt A x1 s.heap) (hne : x1 ≠ it)
    (hit : IsTupIter s.heap it l i) (hl : IsTup s.heap l items) (none : items[i]? = none) (hQ : ∀ h', Heap.ExtBut it s.heap h' → Q .none { s with heap := h' }) : wpAny (model prog w) A (pyNext (.ref it)) Q E s := by
  obtain ⟨oi, gi, ci, di⟩ := id hit
  obtain ⟨ol, gl, _, nl, dl⟩ := hl
  obtain ⟨hd, ob, vals, stands, isF, ctx⟩ := hot
  unfold pyNext
  refine wpAny_bind (wpAny_attempt (wpAny_callSpecial?_slot (name := Str.ofString "__next__") hit.typeIs slot_tupleiter_next (wpAny_call_entry slot_tupleiter_next hit.typeIs entry_tupleiter_next ?_ (args_tupleiter_next _))))
  show wpAny _ _ (field (.ref it) 0 >>= _) _ _ s
  refine wpAny_bind (wpAny_field gi di (x := .ref l) rfl ?_)
  show wpAny _ _ (if (Value.ref l == Value.none) = true then _ else _) _ _ s
  rw [if_neg (fun no => nomatch (show false = true from no) : ¬ ((Value.ref l == Value.none) = true))]
  show wpAny _ _ (field (.ref it) 1 >>= _) _ _ s
  refine wpAny_bind (wpAny_field gi di (x := .int i 0) rfl ?_)
  show wpAny _ _ (seqItems? (.ref l) >>= _) _ _ s
  refine wpAny_bind (wpAny_seqItems gl dl ?_)
  simp only [Int.toNat_natCast, none]
  refine wpAny_bind (wpAny_rule (wpAny_bind (wpAny_setField gi di (by simp) ?_)))
  refine stop_hot (s := { s with heap := _ }) (x1 := x1) ⟨hd, ob, vals, by rw [Heap.get?_update_other _ _ (Ne.symm hne)]; exact stands, isF, ctx⟩ fun h' n up ⟨o, go, co⟩ => ?_
  refine wpAny_bind (wpAny_isInstance (T := "StopIteration") (b := true) ⟨o, go, co⟩ isSubtype_stop ?_)
  exact wpAny_pure (hQ _ fun b u nb e => up b u (by rw [Heap.get?_update_other _ _ (Ne.symm nb)]; exact e))
theorem hot_grow {h h' : Heap} (hot : HotAt A x1 h) (k : ∀ o, h.get? x1 = some o → h'.get? x1 = some o) : HotAt A x1 h' := by
  obtain ⟨hd, ob, vals, stands, isF, ctx⟩ := hot
  exact ⟨hd, ob, vals, k _ stands, isF, ctx⟩
theorem hot_lt {h : Heap} (hot : HotAt A x1 h) : x1 < h.objs.size := by
  obtain ⟨hd, ob, vals, stands, isF, ctx⟩ := hot
  exact Heap.lt_size stands
/-- a tuple goes to targets -/
theorem unpack_hot {t : Addr} {items : Array Value} {targets : List (Bool × (Value → Sem Unit))} {E : Value → Shared → Prop} {Q : Unit → Shared → Prop} (hot : HotAt A x1 s.heap) (ht : IsTup s.heap t items)
    (hn : targets.length = items.size) (hstar : targets.findIdx? (·.1) = none)
    (h : ∀ h', Heap.ExtBut s.heap.objs.size s.heap h' → wpAny (model prog w) A (assignInOrder (targets.map (·.2)) items.toList) Q E { s with heap := h' }) : wpAny (model prog w) A (unpack (.ref t) targets) Q E s := by
  have tn : t ≠ s.heap.objs.size := by
    obtain ⟨o, ho, _⟩ := ht
    exact Nat.ne_of_lt (Heap.lt_size ho)
  have xn : x1 ≠ s.heap.objs.size := Nat.ne_of_lt (hot_lt hot)
  unfold unpack
  rw [hn, hstar]
  refine wpAny_bind (wpAny_holding ?_)
  unfold unpackItems
  refine wpAny_bind ?_
  unfold notIterableAtAll
  refine wpAny_bind (wpAny_specialOf ht.typeIs slot_tuple_iter.lookup (wpAny_pure ?_))
  simp only [Bool.false_eq_true, if_false]
  refine wpAny_bind (wpAny_holding (iter_tuple ht ?_))
  refine wpAny_bind (wpAny_holding (draw_tuple tn items.size 0 _ _ ⟨_, Heap.get?_push_size _ rfl, rfl, rfl⟩ (ht.push _) (by omega) fun h1 it1 sb1 => ?_))
  have whole : List.take items.size (List.drop 0 items.toList) = items.toList := by rw [List.drop_zero, ← Array.length_toList, List.take_length]
  rw [whole, if_neg (by simp)]
  have keeps : ∀ b o, b ≠ s.heap.objs.size → s.heap.get? b = some o → h1.get? b = some o := fun b o nb e => sb1.extBut b o nb (Heap.get?_push_of_some _ e)
  refine wpAny_bind (wpAny_holding (tup_end_hot (s := { s with heap := h1 }) (hot_grow hot fun o e => keeps _ o xn e) xn it1 ((ht.push _).extBut sb1.extBut tn) (by simp) fun h2 eb => ?_))
  simp only [Option.isSome_none, Bool.false_eq_true, if_false]
  exact wpAny_pure (h h2 fun b o nb e => eb b o nb (keeps b o nb e))
end

/-- a target, stored while the exception at x1 is handled -/
def PGH (X : Cx) (target : Expr) (t : TG) : Prop := ∀ (x1 : Addr) (pins : List (Addr × Obj)) (s : Shared) (σ : L2.St) (H : Hp) (v : V) (u : Value) (Q : L2.St → Hp → Prop), HotAt X.A x1 s.heap → Inv X pins σ H s → RelV v u → t v σ H Q →
    wpAny (model X.prog X.w) X.A (assign target X.env u) (fun _ s' => ∃ σ' H', Inv X pins σ' H' s' ∧ Q σ' H') X.xe s
theorem pgh_of {X : Cx} {tg : Expr} {t : TG} (h : PG X tg t) : PGH X tg t := fun _ pins s σ H v u Q _ inv rel hw => h.run pins s σ H v u Q inv rel hw
theorem pgh_tup {X : Cx} {pos : Pos} {es : List Expr} {k : Nat} {t : TGs} {n : Nat} (h : PGs X es t) (hn : (assignEach es X.env).length = n := by rfl) (hst : (assignEach es X.env).findIdx? (·.1) = none := by rfl) : PGH X (.Tuple es k pos) (gTup X.K n t) := by
  intro x1 pins s σ H v u Q hot inv rel hw
  obtain ⟨a, xs, rfl, hq, hl, hw⟩ := hw
  cases rel
  obtain ⟨its, vals, isT, _⟩ := inv.tuple hq
  rw [assign_Tuple]
  refine wpAny_bind (wpAny_standAt (unpack_hot hot isT (by simp [hn, ← hl, vals.length]) hst fun h' eb => ?_))
  exact h.run pins { s with heap := h' } σ H xs _ Q (inv.kept (t' := s.toks) fun b o e => eb b o (Nat.ne_of_lt (Heap.lt_size e)) e) (by simpa using vals) hw

section
variable {X : Cx}
theorem lc_hot {pins : List (Addr × Obj)} {s : Shared} {σ : L2.St} {H : Hp} {Q : VK} {elt tg iter : Expr} {ifs : List Expr} {scope : Scope} {own : List (Str × Nat)} {pos pos' : Pos} {tl : TE} {g : TG} {tt : TT} {te : TE} {use : Option (Value → Sem Unit)} {Qf : Value → Shared → Prop}
    (hc : HotC X) (hN : X.N.Nodup) (inv : Inv X pins σ H s) (hl : PE X iter tl) (ok : BlkOk X.N X.env.scope scope own)
    (hg : ∀ (s : Shared) (H : Hp) (C : Addr) (cl : List (Str × Addr)) (fp : List Addr), PGH (X.blk s H scope (compEnvC scope cl C X.env) fp) tg g)
    (ht : ∀ (s : Shared) (H : Hp) (C : Addr) (cl : List (Str × Addr)) (fp : List Addr), PTs (X.blk s H scope (compEnvC scope cl C X.env) fp) ifs tt)
    (he : ∀ (s : Shared) (H : Hp) (C : Addr) (cl : List (Str × Addr)) (fp : List Addr), PE (X.blk s H scope (compEnvC scope cl C X.env) fp) elt te)
    (hs : ∀ x, foldedSetIterable iter X.env x = pure x) (h : tLc (iList X.K tl) g tt te (own.map (·.2)) σ H Q)
    (done : ∀ D C s' m H', Inv X pins σ H' s' → Q (.ref D) H' → s'.heap.Ns C m → FpOk X pins H' C → compPost (model X.prog X.w) X.A X.xe use Qf (.ref D) C (.ok .next) s') :
    wpAny (model X.prog X.w) X.A (comprehension (.ListComp elt [⟨tg, iter, ifs, 0⟩] scope pos) scope X.env pos' (newList []) false (eval iter X.env) use) Qf X.xe s := by
  have clos : ∀ y ∈ scope.names, y.2 = .free → ∃ c, X.env.cells.lookup y.1 = some c := fun y hy e => (ok.free y hy e).elim (fun k => inv.ok.has _ (.inl k)) fun k => inv.ok.has _ (.inr k)
  refine wpAny_comprehension_free (use := use) rfl hs (closure_ok clos) ok.kind (fun y hy e => by rw [ok.uniq y hy, e]) (thn (hl.run pins s σ H _ inv h) fun v s1 ⟨x, H2, inv1, rel1, a, ea, ⟨xs0, sq0⟩, q⟩ => ?_)
  subst ea
  cases rel1
  obtain ⟨its0, vals0, p0, _⟩ := inv1.list sq0
  refine wpAny_pyIter_list p0.isList ?_
  -- the iterator
  generalize hit : s1.heap.objs.size = it
  generalize hs2 : ({ s1 with heap := s1.heap.push { cls := .type "list_iterator", data := .fields #[.ref a, .int 0 0] } } : Shared) = s2
  have h2 : s2.heap = s1.heap.push { cls := .type "list_iterator", data := .fields #[.ref a, .int 0 0] } := by rw [← hs2]
  have inv2 : Inv X pins σ H2 s2 := by
    rw [← hs2]
    exact inv1.kept (t' := s1.toks) fun b o e => Heap.get?_push_of_some _ e
  have isIt2 : s2.heap.IsListIter it a 0 := by
    rw [h2, ← hit]
    exact ⟨_, Heap.get?_push_size _ rfl, rfl, rfl⟩
  have itN : H2 it = none := inv1.hok.fresh (Nat.le_of_eq hit)
  have itF : FpOk X pins H2 it := inv1.fpOk (Nat.le_of_eq hit) itN
  have itLt : it < s2.heap.objs.size := by rw [h2, Heap.size_push, hit]; exact Nat.lt_succ_self _
  refine wpAny_newObj_type (newEnv_comp ?_) (by show 0 ≤ sizeLine; decide)
  generalize hD : s2.heap.objs.size = D
  have hDn : H2 D = none := inv2.hok.fresh (Nat.le_of_eq hD)
  obtain ⟨W, ⟨m0, w0⟩, turn⟩ := q D hDn
  generalize hs3 : ({ s2 with heap := s2.heap.push { cls := .type "list", data := .seq ([] : List Value).toArray } } : Shared) = s3
  have h3 : s3.heap = s2.heap.push { cls := .type "list", data := .seq ([] : List Value).toArray } := by rw [← hs3]
  generalize hH3 : upd H2 D (.lst []) = H3 at w0
  have inv3 : Inv X pins σ H3 s3 := by
    rw [← hs3, ← hH3]
    refine inv2.laid (t' := s2.toks) (fun b o e => Heap.get?_push_of_some _ e) (Nat.le_of_eq hD) ⟨Nat.zero_le _, [], 0, .nil, ?_⟩
    rw [← hD]
    exact Heap.get?_push_size _ rfl
  have itD : it ≠ D := by rw [← hD]; exact Nat.ne_of_lt itLt
  have itN3 : H3 it = none := by rw [← hH3, upd_ne itD]; exact itN
  have fp3 : ∀ b ∈ [it], FpOk X pins H3 b ∧ b < s3.heap.objs.size := fun b hb => by
    have eb : b = it := by simpa using hb
    subst eb
    exact ⟨⟨itN3, itF.2⟩, by rw [h3, Heap.size_push]; exact Nat.lt_succ_of_lt itLt⟩
  have isIt3 : s3.heap.IsListIter it a 0 := by
    obtain ⟨o, e1, e2, e3⟩ := isIt2
    exact ⟨o, by rw [h3]; exact Heap.get?_push_of_some _ e1, e2, e3⟩
  -- what is handled stands throughout
  obtain ⟨pin, ⟨hd, fs, isF, ctx⟩, hpin⟩ := hc
  have stands3 := inv3.pin pin (List.mem_append_left _ hpin)
  have pinIt : pin.1 ≠ it := itF.2.2.2.2.2 pin (List.mem_append_left _ hpin)
  have pinFs : pin.1 ∉ frs X.stack := fun hm => (List.mem_cons.mp (inv3.stkSub pin.1 hm)).elim stands3.2.2.1 stands3.2.2.2.1
  have inv4 := block_start inv3 ok hN fp3
  have pg := hg s3 H3 s3.heap.objs.size (cellsFrom (s3.heap.objs.size + 1) scope.names (cloFrom X.env.cells scope.names [])) [it]
  have pt := ht s3 H3 s3.heap.objs.size (cellsFrom (s3.heap.objs.size + 1) scope.names (cloFrom X.env.cells scope.names [])) [it]
  have pe := he s3 H3 s3.heap.objs.size (cellsFrom (s3.heap.objs.size + 1) scope.names (cloFrom X.env.cells scope.names [])) [it]
  show codeAny _ _ (.compStart (.ListComp elt [⟨tg, iter, ifs, 0⟩] scope pos) 0 (.ref it) (.ref D) (compEnvC scope (cellsFrom (s3.heap.objs.size + 1) scope.names (cloFrom X.env.cells scope.names [])) s3.heap.objs.size X.env)) (compPost (model X.prog X.w) X.A X.xe use Qf (.ref D) s3.heap.objs.size) { s3 with heap := pushCells (s3.heap.push { cls := .type "dict", data := .dict #[] }) scope.names }
  generalize hce : compEnvC scope (cellsFrom (s3.heap.objs.size + 1) scope.names (cloFrom X.env.cells scope.names [])) s3.heap.objs.size X.env = ce at inv4 pg pt pe ⊢
  have cL : ce.locals = s3.heap.objs.size := by subst hce; rfl
  generalize hs4 : ({ s3 with heap := pushCells (s3.heap.push { cls := .type "dict", data := .dict #[] }) scope.names } : Shared) = s4 at inv4 ⊢
  have isIt4 : s4.heap.IsListIter it a 0 := by
    obtain ⟨o, e1, e2, e3⟩ := isIt3
    exact ⟨o, by rw [← hs4]; exact pushCells_keeps _ _ _ _ (Heap.get?_push_of_some _ e1), e2, e3⟩
  have hotB : ∀ {σ' : L2.St} {H' : Hp} {s' : Shared} {ps : List (Addr × Obj)}, Inv (X.blk s3 H3 scope ce [it]) ps σ' H' s' → HotAt X.A pin.1 s'.heap := fun {σ' H' s' ps} J =>
    ⟨hd, pin.2, fs, J.base.keep pin.1 pin.2 stands3.1 stands3.2.1 pinFs (by simpa using pinIt), isF, ctx⟩
  have fpB : ∀ {σ' : L2.St} {H' : Hp} {s' : Shared}, Inv (X.blk s3 H3 scope ce [it]) [] σ' H' s' → H' it = none → FpOk (X.blk s3 H3 scope ce [it]) [] H' it := fun {σ' H' s'} J hn =>
    ⟨hn, (J.ok.exf it (by simp)).1, J.ok.exfs it (by simp), .inl (by simp), fun x c e => (J.ok.exf it (by simp)).2 x c e, fun p hp => absurd (show p ∈ ([] : List (Addr × Obj)) ++ [] from hp) (by simp)⟩
  have loop : codeAny (model X.prog X.w) X.A (.compLoop (.ListComp elt [⟨tg, iter, ifs, 0⟩] scope pos) 0 (.ref it) (.ref D) ce) (compPost (model X.prog X.w) X.A X.xe use Qf (.ref D) s3.heap.objs.size) s4 := by
    refine compLoop_any (fun n s' => ∃ i H', Inv (X.blk s3 H3 scope ce [it]) [] (wipe σ (own.map (·.2))) H' s' ∧ s'.heap.IsListIter it a i ∧ H' it = none ∧ W i n H') ?_ m0 ⟨0, H3, inv4, isIt4, itN3, w0⟩
    rintro n s5 ⟨i, H5, inv5, isIt5, itN5, w5⟩
    obtain ⟨f0, f1, f2, f3, f4, f5⟩ := fpB inv5 itN5
    rcases turn i n H5 w5 with ⟨⟨xs, sq, hx⟩, qq⟩ | ⟨⟨xs, x, sq, hx⟩, Nx, hNx, step⟩
    · obtain ⟨its, vals, p, _⟩ := inv5.list sq
      have hlen := vals.length
      refine list_end_hot (hotB inv5) pinIt isIt5 p.isList (by simp; omega) fun h6 eb => ?_
      have inv6 : Inv (X.blk s3 H3 scope ce [it]) [] (wipe σ (own.map (·.2))) H5 { s5 with heap := h6 } := inv5.turned (t' := s5.toks) (fun b o nb e => eb b o nb e) f0 f1 f3 f4 f5
      have inv7 : Inv X pins σ H5 { s5 with heap := h6 } := inv3.call' (ch := [it]) inv6.os inv6.base inv6.hok inv6.bare fun b hb => ⟨(fp3 b hb).1.2.2.2.1, (fp3 b hb).1.2.1, (fp3 b hb).1.2.2.2.2.1, (fp3 b hb).1.2.2.2.2.2⟩
      have nC : H5 s3.heap.objs.size = none := by
        have z : H5 ce.locals = none := inv6.free
        rwa [cL] at z
      obtain ⟨m, hn, _⟩ := inv6.loc
      have hn : Heap.Ns h6 ce.locals m := hn
      rw [cL] at hn
      exact done D s3.heap.objs.size _ m H5 inv7 qq hn (inv3.fpOk (Nat.le_refl _) nC)
    · obtain ⟨its, vals, p, _⟩ := inv5.list sq
      obtain ⟨u, hu, ru⟩ := vals.get hx
      refine wpAny_pyNext_list_item isIt5 p.isList (x := u) (by simpa using hu) fun h6 isIt6 sb => ?_
      have inv6 : Inv (X.blk s3 H3 scope ce [it]) [] (wipe σ (own.map (·.2))) H5 { s5 with heap := h6 } := inv5.turned (t' := s5.toks) (fun b o nb e => (sb.2 b nb).trans e) f0 f1 f3 f4 f5
      obtain ⟨oI, eI, cI, dI⟩ := id isIt6
      refine go_of (s := { s5 with heap := h6 }) eI cI dI (by decide) ?_
      have noCell : ∀ b ∈ [it], ∃ o, h6.get? b = some o ∧ ∀ v, o.data ≠ .cell v := fun b hb => by
        have eb : b = it := by simpa using hb
        subst eb
        exact ⟨oI, eI, fun v z => by rw [dI] at z; cases z⟩
      have inv6' := inv6.pinned (s := { s5 with heap := h6 }) (fun b hb => by
        have eb : b = it := by simpa using hb
        subst eb
        exact fpB inv6 itN5) noCell
      refine thnF (pg pin.1 _ { s5 with heap := h6 } _ H5 x u _ (hotB inv6) inv6' ru (step x H5 ⟨rfl, fun ys hy => by rw [inv5.list_inj hy sq]; exact hx⟩)) fun _ s8 ⟨σ8, H8, inv8, hw8, q8⟩ => ?_
      refine thnF (pt.run _ s8 σ8 H8 _ inv8 q8) fun b s9 ⟨H9, inv9, q9⟩ => ?_
      have fin : ∀ {s' : Shared} {H' : Hp}, Inv (X.blk s3 H3 scope ce [it]) ([] ++ pinsAt [it] h6) σ8 H' s' → Nx H' → ∃ m, m < n ∧ ∃ i H', Inv (X.blk s3 H3 scope ce [it]) [] (wipe σ (own.map (·.2))) H' s' ∧ s'.heap.IsListIter it a i ∧ H' it = none ∧ W i m H' := fun {s' H'} J nx => by
        obtain ⟨m', less, w'⟩ := hNx H' nx
        have held := J.pin (it, oI) (List.mem_append_right _ (List.mem_append_right _ (mem_pinsAt (by simp) eI)))
        have hlen : (wipe σ (own.map (·.2))).length = σ8.length := by rw [← hw8, wipe_length]
        refine ⟨m', less, i + 1, H', (J.unpinned (pins := [])).weak hlen (fun j v e => ?_), ⟨oI, held.1, cI, dI⟩, held.2.1, w'⟩
        rw [← hw8] at e
        exact (wipe_some e).1
      cases b with
      | false =>
        simp only [Bool.false_eq_true, if_false] at q9 ⊢
        exact fin inv9 q9
      | true =>
        simp only [if_true] at q9 ⊢
        refine thnF (pe.run _ s9 σ8 H9 _ inv9 q9) fun z s10 ⟨yv, H10, inv10, r10, acc, hD10, hz10, nx⟩ => ?_
        exact app_ok (X := X.blk s3 H3 scope ce [it]) inv10 hD10 hz10 r10 fun s11 inv11 => fin inv11 nx
  exact codeAny_compStart_list loop (wpAny_pyIter_listiter isIt4 loop)
theorem pe_lcH {elt tg iter : Expr} {ifs : List Expr} {scope : Scope} {own : List (Str × Nat)} {pos : Pos} {tl : TE} {g : TG} {tt : TT} {te : TE} (hc : HotC X) (hN : X.N.Nodup) (hl : PE X iter tl) (ok : BlkOk X.N X.env.scope scope own)
    (hg : ∀ (s : Shared) (H : Hp) (C : Addr) (cl : List (Str × Addr)) (fp : List Addr), PGH (X.blk s H scope (compEnvC scope cl C X.env) fp) tg g)
    (ht : ∀ (s : Shared) (H : Hp) (C : Addr) (cl : List (Str × Addr)) (fp : List Addr), PTs (X.blk s H scope (compEnvC scope cl C X.env) fp) ifs tt)
    (he : ∀ (s : Shared) (H : Hp) (C : Addr) (cl : List (Str × Addr)) (fp : List Addr), PE (X.blk s H scope (compEnvC scope cl C X.env) fp) elt te) (hs : ∀ x, foldedSetIterable iter X.env x = pure x := by intro _; rfl) :
    PE X (.ListComp elt [⟨tg, iter, ifs, 0⟩] scope pos) (tLc (iList X.K tl) g tt te (own.map (·.2))) := by
  refine ⟨fun pins s σ H Q inv hw => ?_⟩
  rw [eval_ListComp]
  refine lc_hot hc hN inv hl ok hg ht he hs hw fun D C s' m H' inv' q hn f => ⟨m, hn, fun h'' sb => ?_⟩
  exact ⟨.ref D, H', inv'.turned (t' := s'.toks) (fun b o nb e => (sb.2 b nb).trans e) f.1 f.2.1 f.2.2.2.1 f.2.2.2.2.1 f.2.2.2.2.2, rfl, q⟩
end
end HHot

set_option Elab.async false
set_option linter.all false
set_option maxRecDepth 100000
set_option maxHeartbeats 1000000
/-! Defs that are called within an except suite. -/
namespace PD
open PySem PySem.Spec PyProof.Rows GxR HGx HHot
open L2 hiding St
open L2H (HotC Hot1 RoomH PinOk cxH inv_startH)
theorem rh_suite {j k : Nat} {A : Around} {h : Option Value} (r : Room k A) (le : j ≤ k) : RoomH j (A.mark h) := ⟨(Room.mono r le).dp, (Room.mono r le).un⟩
/-- what a def does while an exception is handled: p that exception -/
structure FnX (P : Program) (w : World) (K : PySem.W.Frag) (mg : Str → Option Value) (base : Heap) (CX : CXT) (k : Nat) (f : Addr) (fd : FuncData) (ps : List Str) (sp : Addr × Obj → Sp) : Prop where
  len : ∀ p vs H Q E, sp p vs H Q E → vs.length = ps.length
  run : ∀ (p : Addr × Obj) (A : Around) (outer : List Env) (s : Shared) (H : Hp) (args : Args) (us : List Value) (vs : List V) (Q : VK) (E : XK), Hot1 A p → PinOk outer H s p → RoomH k A → Env0 P w K mg base A outer s H →
    BindsTo s fd args (ps.zip us) → Vals vs us → sp p vs H Q E → codeAny (model P w) A (.call (.ref f) args) (CR CX outer P w H s Q E) s
def spX (K : PySem.W.Frag) (S : Src) (P : Addr → Value → PSpec) (p : Addr × Obj) : Sp := fun vs H Q E => ∃ cls, L2N.Zn cls none p.2 ∧ (∃ vs, p.2.data = .fields vs) ∧ spOf K S (P p.1 cls) vs H Q E
section
variable {P : Program} {w : World} {K : PySem.W.Frag} {mg : Str → Option Value} {base : Heap} {S : Src}
theorem okX {x qual : Str} {st : Stmt} {f : Addr} {fd : FuncData} {N ps : List Str} {k : Nat} {P' : Addr → Value → PSpec} {rd : Addr → Value → PTS} (F : Fun K x qual st f fd) (sc : FnScope N ps (defScope st)) (hl : ∀ a c as Qr Qe, P' a c as Qr Qe → as.length = ps.length)
    (body : ∀ (cdv : Value) (A : Around) (outer : List Env) (s : Shared) (H : Hp) (E : XK) (a : Addr) (oe : Obj) (cls : Value), L2N.Zn cls none oe → (∃ vs, oe.data = .fields vs) → HotC (cxH (L2N.CX P w) P w K mg base N qual (defScope st) f cdv A outer s H E (a, oe)) →
      RoomH k (A.deeper (PyProof.Rows.envOfC qual (defScope st) s.heap.objs.size f cdv)) → JSs S (cxH (L2N.CX P w) P w K mg base N qual (defScope st) f cdv A outer s H E (a, oe)) (defBody st) (rd a cls))
    (h : ∀ a c as Qr Qe, P' a c as Qr Qe → rd a c (enOf Qr Qe) (begin_ N.length as)) : FnX P w K mg base (L2N.CX P w) (k + 1) f fd ps (spX K S P') := by
  obtain ⟨oc, od, kV, doc, pm, an, cdv, ct, osl, rfl, lk, hcd⟩ := F.ex
  have len : ∀ p vs H Q E, spX K S P' p vs H Q E → vs.length = ps.length := fun p vs H Q E ⟨cls, _, _, B, as, Qr, Qe, _, R, hp, _⟩ => by
    have e := R.len
    rw [List.length_map] at e
    rw [e]
    exact hl _ _ as Qr Qe hp
  refine ⟨len, fun p A outer s H args us vs Q E hot held room env binds vals hsp => ?_⟩
  have kin : K.In s.heap := env.mod.kin.keeps fun b o e => (env.bs b o e).1
  have kinds : ∀ y ∈ ps.zip us, (defScope st).names.lookup y.1 = some .local ∨ ((defScope st).names.lookup y.1 = some .cell ∧ ((cellsFrom (s.heap.objs.size + 1) (defScope st).names []).lookup y.1).isSome = true) := fun ⟨n, v⟩ hy =>
    (sc.par n (List.of_mem_zip hy).1).elim .inl fun q => .inr ⟨q, PySem.W.cellsFrom_some _ _ _ (.inl q)⟩
  refine codeAny_call_function room.depth (kin _ _ lk) rfl sc.co sc.gen rfl (PySem.W.codeRec_of kin hcd) (binds _ _ _ _ ?_)
  refine wpAny_newFunctionEnv_cells sc.kind kinds fun cenv he s1 x => ?_
  subst he
  refine ⟨(env.mod.nolimit.keeps fun b o e => (env.bs b o e).1).keeps x.toInCall.keep, codeAny_func ?_⟩
  have vl := len _ _ _ _ _ hsp
  obtain ⟨cls, hz, hf, B, as, Qr, Qe, rfl, R, hp, kr, ke⟩ := hsp
  obtain ⟨a, oe⟩ := p
  obtain ⟨ts, b1, b2⟩ := body cdv A outer s B.H E a oe cls hz hf ⟨(a, oe), hot, List.mem_singleton.mpr rfl⟩ (room.deeper _)
  have inv : Inv (cxH (L2N.CX P w) P w K mg base N qual (defScope st) f cdv A outer s B.H E (a, oe)) [] (L2.start N vs) B.H s1 := inv_startH sc held env vl vals x
  have avl : vs.length = as.length := by
    have e := R.len
    rwa [List.length_map] at e
  have R2 := R.start (N.length - vs.length)
  rw [show List.replicate (N.length - vs.length) Sl.un = List.replicate (N.length - as.length) Sl.un by rw [avl]] at R2
  have run := (b1 (fun cls d _ H => E cls d H) (L2N.takes_of rfl rfl rfl rfl) (passes_of rfl)).run [] s1 (L2.start N vs) B.H { nx := fun _ H' => Q .non H', rt := Q } inv
    (b2 _ _ (enOf Qr Qe) B B.M B.H _ _ R2 ⟨fun N1 H1 σ ρ R1 q => kr N1 H1 _ (.v .none) R1.ext .non q, fun N1 H1 v r x ok q => kr N1 H1 v r x ok q, fun _ _ _ _ _ z => z.elim, fun _ _ _ _ _ z => z.elim, fun c N1 H1 σ ρ R1 q => ke c N1 H1 R1.ext q⟩ (h a cls as Qr Qe hp))
  refine wpAny_mono run (fun fl s' out => ?_) fun e s' out => out
  cases fl with
  | ret u =>
    obtain ⟨v, σ', H', J, rv, q⟩ := out
    exact ⟨v, H', J.os, J.bare, J.base, J.hok, rv, q⟩
  | next =>
    obtain ⟨σ', H', J, q⟩ := out
    exact ⟨.non, H', J.os, J.bare, J.base, J.hok, rfl, q⟩
  | brk => exact out.elim fun _ ⟨_, _, no⟩ => no.elim
  | cont => exact out.elim fun _ ⟨_, _, no⟩ => no.elim
end
section
variable {S : Src} {X : Cx} {e a b c : Expr} {es : List Expr} {pos : Pos} {pa pb : PTE} {pr : PTR} {pcs : PTC}
variable {k : Nat} {f : Addr} {fd : FuncData} {ps : List Str} {P : Addr → Value → PSpec} {x : Str} {p : Pos}
theorem hot_suite {X : Cx} {a : Addr} {oe : Obj} {cls : Value} {pn : List (Addr × Obj)} (hz : L2N.Zn cls none oe) (hv : ∃ vs, oe.data = .fields vs) : HotC (X.suite a ((a, oe) :: pn)) :=
  let ⟨vs, e⟩ := hv
  ⟨(a, oe), ⟨rfl, vs, e, hz.2.2 vs e⟩, List.mem_cons_self⟩
/-- f(..) within a suite that holds the exception at a₀ -/
theorem jr_callX {a₀ : Addr} {oe : Obj} {cls : Value} (F : FnX X.prog X.w X.K X.mg X.base (L2N.CX X.prog X.w) k f fd ps (spX X.K S P)) (hr : RoomH k X.A) (hz : L2N.Zn cls none oe) (hv : ∃ vs, oe.data = .fields vs) (hh : X.A.handled = some (.ref a₀)) (hp : (a₀, oe) ∈ X.pn)
    (hg : Gl X x) (hm : X.mg x = some (.ref f)) (hk : PySem.W.keepIn X.K (.ref f) = true) (hb : Binds X.K fd ps [])
    (ha : JC S X (e :: es) pcs) (hdb : (x == ("__debug__" : Str)) = false := by decide) (he : starEach (e :: es) X.env = (false, eval e X.env) :: starEach es X.env := by rfl) (hpl : (backTo pos (starEach es X.env)).any (·.1) = false := by rfl) :
    JR S X (.Call (.Name x p) (e :: es) [] pos) (pCall (P a₀ cls) pcs) := by
  obtain ⟨t, h1, h2⟩ := ha
  refine ⟨fun W => tCallS (spOf X.K S (P a₀ cls)) (WE W) (t W), fun W tk => ⟨fun pins s σ H Q inv hw => ?_⟩, fun W wp B N H σ ρ Q Q' R hw q kk => h2 W wp B N H σ ρ _ _ R hw q fun N1 H1 vs as ρ1 R1 e1 ca q1 => ?_⟩
  · refine wpAny_Call_Name_kw (ld_glob inv hg hm ?_ hdb)
    refine PySem.W.callWith_K (h₀ := X.base) inv.ok.mod.kin hk (thn ((h1 W tk).run pos pins s σ H _ inv hw) fun us s1 ⟨vs, H1, inv1, vals, q⟩ => ⟨inv1.kIn, ?_⟩) he hpl
    obtain ⟨fs, isF⟩ := hv
    have hot : Hot1 X.A (a₀, oe) := ⟨hh, fs, isF, hz.2.2 fs isF⟩
    have q2 : spX X.K S P (a₀, oe) vs H1 Q (WE W σ) := ⟨cls, hz, ⟨fs, isF⟩, q⟩
    have ul : us.length = ps.length := by rw [← vals.length]; exact F.len _ _ _ _ _ q2
    have bd := hb s1 us inv1.kIn (by rw [List.append_nil]; exact ul)
    rw [List.append_nil] at bd
    have st := inv1.pin (a₀, oe) (List.mem_append_left _ hp)
    have held : PinOk X.stack H1 s1 (a₀, oe) := ⟨st.1, st.2.1, fun hm => (List.mem_cons.mp (inv1.stkSub a₀ hm)).elim st.2.2.1 st.2.2.2.1, st.2.2.2.2⟩
    refine wpAny_call (codeAny_mono (F.run (a₀, oe) X.A X.stack s1 H1 ⟨us, []⟩ us vs Q (WE W σ) hot held hr inv1.env0 bd vals q2) fun r s' out => ?_)
    match r, out with
    | .error e, out => exact L2N.passAt tk σ pins H1 s1 e s' inv1 out
    | .ok (.ret u), out => exact inv1.after out
    | .ok .next, out => exact out.elim
    | .ok .brk, out => exact out.elim
    | .ok .cont, out => exact out.elim
  · obtain ⟨one, q1⟩ := q1
    obtain ⟨RC, src⟩ := R1.callee ca one
    refine ⟨calleeB N1 H1 vs as, as, _, _, rfl, RC, q1, fun N2 H2 v r x2 ok q2 => ?_, fun c N2 H2 x2 q2 => ?_⟩
    · have R2 := R1.after rfl rfl src (fun _ z => z) x2
      refine kk N2 H2 v r ρ1 R2 (e1.trans x2.ex) ?_ q2
      cases r with
      | v d => exact ok
      | own ds =>
        obtain ⟨a, ws, g1, g2, g3, g4, g5⟩ := ok
        exact ⟨a, ws, g1, g2, g3, g4, R1.fresh g5, R1.away g5⟩
      | src =>
        obtain ⟨a, ws, g1, g2, g3, g4, g5⟩ := ok
        exact ⟨a, ws, g1, g2, g3, g4, R1.fresh g5, R1.away g5⟩
    · exact hw c N2 H2 ρ1 (R1.after rfl rfl src (fun _ z => z) x2) q2
end
end PD

set_option Elab.async false
set_option linter.all false
set_option maxRecDepth 100000
set_option maxHeartbeats 1000000
/-! List comprehensions within an except suite. -/
namespace PD
open PySem PySem.Spec PyProof.Rows GxR HGx HHot
open L2 hiding St
open L2H (HotC)
/-- over a list alone -/
def piLst (p : PTE) : PTI := fun wp ρ Q => p wp ρ fun d ρ1 => match d with
  | .list ds => Q ds ρ1
  | _ => False
def JGx (S : Src) (X : Cx) (vs : List Nat) (tg : Expr) (p : PTG) : Prop := ∃ g, PGH X tg g ∧ SimGw X.K S vs g p
section
variable {S : Src} {X : Cx} {elt tg iter e : Expr} {es ifs : List Expr} {scope : Scope} {own : List (Str × Nat)} {pos : Pos} {vs : List Nat} {pa pe : PTE} {pg : PTG} {pgs : PTGs} {pt : PTT}
theorem jgx_of (h : JGw S X vs tg pg) : JGx S X vs tg pg := let ⟨g, h1, h2⟩ := h; ⟨g, pgh_of h1, h2⟩
def gtTupX (n : Nat) (q : PTGs) : PTG := fun d ρ Q => match d with
  | .tuple ds => ds.length = n ∧ q ds ρ Q
  | _ => False
theorem jgx_tup {k n : Nat} (h : JGsw S X vs es pgs) (hn : (assignEach es X.env).length = n := by rfl) (hst : (assignEach es X.env).findIdx? (·.1) = none := by rfl) : JGx S X vs (.Tuple es k pos) (gtTupX n pgs) := by
  obtain ⟨g, a1, a2⟩ := h
  refine ⟨gTup X.K n g, pgh_tup a1 hn hst, fun B N H σ ρ v d Q Q' R r q k => ?_⟩
  cases r with
  | tup h1 h2 => exact ⟨_, _, rfl, ex_t R.sub h1, by rw [h2.length]; exact q.1, a2 B N H σ ρ _ _ _ _ R h2 q.2 k⟩
  | _ => exact q.elim
theorem jgx_c0 (h : JGx S X vs tg pg) : PGH X tg (cG X.K S vs pg) := by
  obtain ⟨g, h1, h2⟩ := h
  exact fun x1 pins s σ H v u Q hot inv rel ⟨B, N, ρ, d, Q', R, rp, q, k⟩ => h1 x1 pins s σ H v u Q hot inv rel (h2 B N H σ ρ v d Q Q' R rp q k)
theorem sim_ilist {K : PySem.W.Frag} {t : WX → TE} (h : SimE K S t pa) : SimI K S (fun W => iList K (t W)) (piLst pa) := fun W wp B N H σ ρ R Q' RR hw q k =>
  h W wp B N H σ ρ _ _ RR hw q fun N1 H1 v d ρ1 R1 e1 r q1 => by
    cases r with
    | lst h1 h2 => exact ⟨_, rfl, ⟨_, .inl (.inl (R1.sub _ _ h1))⟩, k N1 H1 _ _ ρ1 R1 e1 (itok_list h1 h2) q1⟩
    | _ => exact q1.elim
theorem jr_lcX (frz : List Nat) (own : List (Str × Nat)) (hc : HotC X) (hN : X.N.Nodup) (hi : JE S X iter pa) (ok : BlkOk X.N X.env.scope scope own)
    (hg : ∀ (s : Shared) (H : Hp) (C : Addr) (cl : List (Str × Addr)) (fp : List Addr), JGx S (X.blk s H scope (compEnvC scope cl C X.env) fp) (own.map (·.2)) tg pg)
    (ht : ∀ (s : Shared) (H : Hp) (C : Addr) (cl : List (Str × Addr)) (fp : List Addr), JF S (X.blk s H scope (compEnvC scope cl C X.env) fp) ifs pt)
    (he : ∀ (s : Shared) (H : Hp) (C : Addr) (cl : List (Str × Addr)) (fp : List Addr), JE S (X.blk s H scope (compEnvC scope cl C X.env) fp) elt pe) (hs : ∀ x, foldedSetIterable iter X.env x = pure x := by intro _; rfl) :
    JR S X (.ListComp elt [⟨tg, iter, ifs, 0⟩] scope pos) (pLc frz (own.map (·.2)) (piLst pa) pg pt pe) := by
  obtain ⟨ti, i1, i2⟩ := hi
  exact ⟨fun W => tLcC X.K S (own.map (·.2)) (iList X.K (ti W)) pg pt pe, fun W tk => pe_lcH (own := own) (g := cG X.K S (own.map (·.2)) pg) (tt := cT X.K S pt) (te := cE X.K S pe) hc hN (i1 W tk) ok
    (fun s H C cl fp => jgx_c0 (hg s H C cl fp)) (fun s H C cl fp => ht s H C cl fp) (fun s H C cl fp => je_c0 (he s H C cl fp)) hs, sim_lc (sim_ilist i2)⟩
/-- name = [..], at the level of the kit -/
theorem ps_setLcH {i : Nat} {y : Str} {py spos : Pos} {tl : TE} {g : TG} {tt : TT} {te : TE} (hc : HotC X) (hN : X.N.Nodup) (hy : X.N[i]? = some y) (hyl : X.env.scope.names.lookup y = some .local)
    (hsw : swapsWith (.ListComp elt [⟨tg, iter, ifs, 0⟩] scope pos) (some (.Name y py)) spos.line X.env = pure true) (hl : PE X iter tl) (ok : BlkOk X.N X.env.scope scope own)
    (hg : ∀ (s : Shared) (H : Hp) (C : Addr) (cl : List (Str × Addr)) (fp : List Addr), PGH (X.blk s H scope (compEnvC scope cl C X.env) fp) tg g)
    (ht : ∀ (s : Shared) (H : Hp) (C : Addr) (cl : List (Str × Addr)) (fp : List Addr), PTs (X.blk s H scope (compEnvC scope cl C X.env) fp) ifs tt)
    (he : ∀ (s : Shared) (H : Hp) (C : Addr) (cl : List (Str × Addr)) (fp : List Addr), PE (X.blk s H scope (compEnvC scope cl C X.env) fp) elt te) (hs : ∀ x, foldedSetIterable iter X.env x = pure x) :
    PS X (.Assign [.Name y py] (.ListComp elt [⟨tg, iter, ifs, 0⟩] scope pos) spos) (tAsg (tLc (iList X.K tl) g tt te (own.map (·.2))) (gName i)) := by
  refine ⟨fun pins s σ H D inv hw => ?_⟩
  have hw : tLc (iList X.K tl) g tt te (own.map (·.2)) σ H (fun x H1 => gName i x σ H1 D.nx) := hw
  rw [exec_Assign_Name_used _ _ _ _ hsw]
  refine wpAny_bind (wpAny_standAt (wpAny_bind ?_))
  show wpAny _ X.A (do let _ ← comprehension (.ListComp elt [⟨tg, iter, ifs, 0⟩] scope pos) scope X.env (firstIterPos [⟨tg, iter, ifs, 0⟩] pos) (newList []) false (eval iter X.env) (some (assign (.Name y py) X.env))) _ _ s
  refine wpAny_bind (thn (lc_hot (Qf := fun _ s' => SP X pins D .next s') hc hN inv hl ok hg ht he hs hw fun L C s' m H' inv' q names fpC => ?_) fun _ s' out => wpAny_pure (wpAny_pure out))
  show wpAny _ _ (assign (.Name y py) X.env (.ref L)) _ _ _
  refine wpAny_assign_Name (store_ok2 (v := V.ref L) inv' hN hy (.inl hyl) rfl (fun s2 inv2 ⟨a, same, at_⟩ => ?_) (.inr hyl))
  have apart : C ≠ a := at_.elim (fun z => by rw [z]; exact fpC.2.1) fun z e => fpC.2.2.2.2.1 y a z e.symm
  exact ⟨m, names.sameBut same apart, fun h3 same3 => ⟨_, H', inv2.turned (t' := s2.toks) (fun b o nb e => (same3.2 b nb).trans e) fpC.1 fpC.2.1 fpC.2.2.2.1 fpC.2.2.2.2.1 fpC.2.2.2.2.2, q⟩⟩
theorem js_setLcX (frz : List Nat) (own : List (Str × Nat)) (i : Nat) {y : Str} {py spos : Pos} (hc : HotC X) (hN : X.N.Nodup) (hi : JE S X iter pa) (ok : BlkOk X.N X.env.scope scope own)
    (hg : ∀ (s : Shared) (H : Hp) (C : Addr) (cl : List (Str × Addr)) (fp : List Addr), JGx S (X.blk s H scope (compEnvC scope cl C X.env) fp) (own.map (·.2)) tg pg)
    (ht : ∀ (s : Shared) (H : Hp) (C : Addr) (cl : List (Str × Addr)) (fp : List Addr), JF S (X.blk s H scope (compEnvC scope cl C X.env) fp) ifs pt)
    (he : ∀ (s : Shared) (H : Hp) (C : Addr) (cl : List (Str × Addr)) (fp : List Addr), JE S (X.blk s H scope (compEnvC scope cl C X.env) fp) elt pe)
    (hy : X.N[i]? = some y := by rfl) (hyl : X.env.scope.names.lookup y = some .local := by rfl) (hsw : swapsWith (.ListComp elt [⟨tg, iter, ifs, 0⟩] scope pos) (some (.Name y py)) spos.line X.env = pure true := by rfl)
    (hs : ∀ x, foldedSetIterable iter X.env x = pure x := by intro _; rfl) :
    JS S X (.Assign [.Name y py] (.ListComp elt [⟨tg, iter, ifs, 0⟩] scope pos) spos) (qSet i (pLc frz (own.map (·.2)) (piLst pa) pg pt pe)) := by
  obtain ⟨ti, i1, i2⟩ := hi
  refine ⟨fun W => tAsg (tLcC X.K S (own.map fun z : Str × Nat => z.2) (iList X.K (ti W)) pg pt pe) (gName i), fun W tk _ => ps_setLcH (own := own) (g := cG X.K S (own.map fun z : Str × Nat => z.2) pg) (tt := cT X.K S pt) (te := cE X.K S pe) hc hN hy hyl hsw (i1 W tk) ok
    (fun s H C cl fp => jgx_c0 (hg s H C cl fp)) (fun s H C cl fp => ht s H C cl fp) (fun s H C cl fp => je_c0 (he s H C cl fp)) hs, fun W D P B N H σ ρ R C q => ?_⟩
  exact sim_lc (sim_ilist i2) W P.ex B N H σ ρ _ _ R C.w q fun N1 H1 v r ρ1 R1 _ ok q1 => C.nx N1 H1 _ _ (R1.put ok) q1
theorem je_isB {a₀ : Addr} {oe : Obj} {cls : Value} {T : String} {n y : Str} {p py px : Pos} (i : Nat) (hz : L2N.Zn cls none oe) (hv : ∃ vs, oe.data = .fields vs) (hp : (a₀, oe) ∈ X.pn) (hg : Gl X "isinstance") (hm : X.mg "isinstance" = none) (hgy : Gl X y) (hmy : X.mg y = none) (hvy : bootBuiltins y = some (.type T))
    (hN : X.N[i]? = some n := by rfl) (hvis : Vis X.env.scope n := by first | exact Or.inl rfl | exact Or.inr (Or.inl rfl) | exact Or.inr (Or.inr rfl)) (hd : (n == ("__debug__" : Str)) = false := by decide)
    (hcd : (n == ("__classdict__" : Str)) = false := by decide) (hn : y ≠ "__name__" := by decide) (hdb : (y == ("__debug__" : Str)) = false := by decide)
    (hs1 : starEach [.Name n px, .Name y py] X.env = (false, eval (.Name n px) X.env) :: starEach [.Name y py] X.env := by rfl) (hs2 : starEach [.Name y py] X.env = (false, eval (.Name y py) X.env) :: starEach [] X.env := by rfl) (hpl : (backTo pos (starEach [.Name y py] X.env)).any (·.1) = false := by rfl) :
    JE S X (.Call (.Name "isinstance" p) [.Name n px, .Name y py] [] pos) (pIsB X.K i a₀ T cls) := by
  have hcall : CallR X (.builtin "isinstance") (fun xs H Q => ∃ D, cls = .ref D ∧ ExcC X.K D ∧ rIsE X.K D a₀ xs H Q) := by
    intro pins s σ H xs us Q I r h
    obtain ⟨D, hcl, hC, h⟩ := h
    subst hcl
    exact call_isX hC hz.zc hv hp pins s σ H xs us Q I r h
  refine ⟨fun W => tCB _ (tCons (tVar i) (tCons (tC (.ty T)) tNil)), fun W k => pe_callB hcall hg hm PyProof.Rows.boot_isinstance (pa_cons (pv i hN hvis hd hcd) (pa_cons (pe_bltn hgy hmy hvy rfl hn hdb) pa_nil hs2) hs1) (by decide) (by decide) hs1 hpl, fun W wp B N H σ ρ Q Q' R hw q k => ?_⟩
  obtain ⟨D, b, h1, h2, h3, h4, q⟩ := q
  obtain ⟨x, ex, hx⟩ := R.ok i _ h4
  have hx' : x = some (.ref a₀) := hx
  subst hx'
  exact ⟨.ref a₀, ex, D, h1, h2, .ty T, .type T, b, rfl, fun u hu => hu, h3, k N H _ _ ρ R (Ex.refl _) (.bl b) q⟩
end
end PD

set_option Elab.async false
set_option linter.all false
set_option maxRecDepth 100000
set_option maxHeartbeats 1000000
/-! Draws out of a list of three: turn, what is left, the cells. gcd. -/
namespace PD
open PySem L2 GxR HGx
/-- the sources: [turn, left, cells] -/
def opn (tb : Addr → Prop) : Src where
  ok := fun M o => ∃ (t l : Int) (c : Addr) (cs : List Int), o = .lst [.int t, .int l, .ref c] ∧ M c = some (.lst (cs.map V.int)) ∧ cs ≠ []
  mono := fun _ _ _ e ⟨t, l, c, cs, h1, h2, h3⟩ => ⟨t, l, c, cs, h1, e _ _ h2, h3⟩
  tb := tb
  nt := fun _ _ ⟨_, _, _, _, e, _⟩ => by cases e
/-- a source is written to -/
theorem Rel.srcSet {K : PySem.W.Frag} {S : Src} {B : Bs} {N H : Hp} {σ : St} {ρ : List Sl} {i : Nat} {a : Addr} {o : HO} (R : Rel K S B N H σ ρ) (hi : ρ[i]? = some .src) (ha : σ[i]? = some (some (.ref a))) (ho : S.ok N o) : Rel K S B N (upd H a o) σ ρ := by
  obtain ⟨x, ex, a', o0, e, h1, h2, h3, h4⟩ := R.ok i _ hi
  rw [ha] at ex
  cases ex
  cases e
  have ne : ∀ b u, N b = some u → b ≠ a := fun b u q z => by rw [z, h3] at q; cases q
  refine ⟨R.b, ⟨R.ext.ex, fun b u q => by rw [upd_ne (ne b u q)]; exact R.sub b u q, R.ext.fr, fun b u q nz ny nt => ?_, fun b n => ?_, fun b hb => ?_, R.ext.fl, fun b hb => ?_⟩, R.len, fun j s hs => ?_, R.sep⟩
  · have nb : b ≠ a := fun z => by
      subst z
      exact h4.elim nz fun n => by rw [n] at q; cases q
    rw [upd_ne nb]
    exact R.ext.keep b u q nz ny nt
  · by_cases hb : b = a
    · rw [hb, upd_same]; exact nofun
    · rw [upd_ne hb]; exact R.ext.dom b n
  · by_cases h : b = a
    · rw [h, upd_same]; exact ⟨o, rfl, ho⟩
    · rw [upd_ne h]; exact R.ext.src b hb
  · obtain ⟨ps, g1, g2⟩ := R.ext.tab b hb
    have nb : b ≠ a := fun z => by
      subst z
      exact tab_nots (R.ext.tab b hb) h1 h2
    exact ⟨ps, by rw [upd_ne nb]; exact g1, g2⟩
  · obtain ⟨y, ey, q⟩ := R.ok j s hs
    refine ⟨y, ey, ?_⟩
    have na : s.mut = true → s ≠ .src → ∀ c, y = some (.ref c) → c ≠ a := fun m ns c hc z => by
      subst hc
      subst z
      by_cases hj : j = i
      · rw [hj, hi] at hs
        exact ns (Option.some.inj hs).symm
      · exact R.sep j i s .src _ hj hs hi m rfl ey ha
    cases s with
    | un => trivial
    | v d => exact q
    | own ds => obtain ⟨c, ws, hy, g1, g2⟩ := q; exact ⟨c, ws, hy, by rw [upd_ne (na rfl nofun c hy)]; exact g1, g2⟩
    | brw ds => obtain ⟨c, ws, hy, g1, g2⟩ := q; exact ⟨c, ws, hy, by rw [upd_ne (na rfl nofun c hy)]; exact g1, g2⟩
    | src =>
      obtain ⟨c, u, hy, g1, g2, g3, g4⟩ := q
      by_cases hc : c = a
      · exact ⟨c, o, hy, by rw [hc, upd_same], ho, g3, g4⟩
      · exact ⟨c, u, hy, by rw [upd_ne hc]; exact g1, g2, g3, g4⟩
    | exc c v => exact q
    | fz ds => exact q
section
variable {tb : Addr → Prop} {S : Src} {X : Cx} {e a b c : Expr} {es : List Expr} {pos p p2 pos2 : Pos} {pa pb : PTE} {pr : PTR} {pl ph : PTO} {lo hi : Option Expr} {pgs : PTGs}
/-- fz[lo:hi] -/
def pSliceFz (i : Nat) (lo hi : PTO) : PTE := fun wp ρ Q => match ρ[i]? with
  | some (.fz ds) => lo wp ρ fun l ρ2 => hi wp ρ2 fun u ρ3 => Q (.list (cutD ds l u)) ρ3
  | _ => False
theorem je_sliceFz (i : Nat) {x : Str} {px : Pos} (hl : JO S X lo pl) (hu : JO S X hi ph) (hN : X.N[i]? = some x := by rfl) (hv : Vis X.env.scope x := by first | exact Or.inl rfl | exact Or.inr (Or.inl rfl) | exact Or.inr (Or.inr rfl)) (hd : (x == ("__debug__" : Str)) = false := by decide)
    (hcd : (x == ("__classdict__" : Str)) = false := by decide) : JE S X (.Subscript (.Name x px) (.Slice lo hi none p2) pos) (pSliceFz i pl ph) := by
  obtain ⟨tl, b1, b2⟩ := hl
  obtain ⟨th, c1, c2⟩ := hu
  refine ⟨fun W => tSl (fun x lo hi H Q => rSlL X.K x lo hi H Q ∨ rSlA X.K x lo hi H Q) (tVar i) (tl W) (th W), fun W k => pe_slice (sl_list.or sl_tupA) (pv i hN hv hd hcd) (b1 W k) (c1 W k), fun W wp B N H σ ρ Q Q' R hw q k => ?_⟩
  unfold pSliceFz at q
  split at q
  · rename_i ds h
    obtain ⟨x, ex, a, vs, rfl, h1, h2⟩ := R.ok i _ h
    refine ⟨.ref a, ex, b2 W wp B N H σ ρ _ _ R hw q fun N2 H2 l ρ2 R2 e2 q2 => c2 W wp B N2 H2 σ ρ2 _ _ R2 hw q2 fun N3 H3 u ρ3 R3 e3 q3 => ?_⟩
    refine .inl ⟨_, _, rfl, ex_l R3.sub (ex_l (e2.trans e3) h1), fun p hp => ?_⟩
    exact k _ _ _ _ ρ3 (R3.newM hp) ((e2.trans e3).trans (Ex.new (R3.sub.none hp))) (.lst upd_same ((cut_rp (h2.up (e2.trans e3)) l u).up (Ex.new (R3.sub.none hp)))) q3
  · exact q.elim
/-- a, b, c = draws -/
def qOpn (i j k l : Nat) : PTS := fun P ρ => ρ[i]? = some .src ∧ ∀ (t m : Int) (cs : List Int), cs ≠ [] → P.nx (((ρ.set j (.v (.int t))).set k (.v (.int m))).set l (.v (.list (cs.map PyData.int))))
theorem js_opn (i j k l : Nat) {x y1 y2 y3 : Str} {px p1 p3 p4 : Pos} {kk : Nat} (hc : X.calm = true) (hN : X.N.Nodup) (hNi : X.N[i]? = some x := by rfl) (hv : Vis X.env.scope x := by first | exact Or.inl rfl | exact Or.inr (Or.inl rfl) | exact Or.inr (Or.inr rfl)) (hd : (x == ("__debug__" : Str)) = false := by decide)
    (hcd : (x == ("__classdict__" : Str)) = false := by decide) (h1 : X.N[j]? = some y1 := by rfl) (h2 : X.N[k]? = some y2 := by rfl) (h3 : X.N[l]? = some y3 := by rfl)
    (l1 : Loc X.env.scope y1 := by first | exact Or.inl rfl | exact Or.inr rfl) (l2 : Loc X.env.scope y2 := by first | exact Or.inl rfl | exact Or.inr rfl) (l3 : Loc X.env.scope y3 := by first | exact Or.inl rfl | exact Or.inr rfl)
    (f1 : X.fn y1 = true ∨ X.env.scope.names.lookup y1 = some .local := by first | exact .inl rfl | exact .inr rfl) (f2 : X.fn y2 = true ∨ X.env.scope.names.lookup y2 = some .local := by first | exact .inl rfl | exact .inr rfl) (f3 : X.fn y3 = true ∨ X.env.scope.names.lookup y3 = some .local := by first | exact .inl rfl | exact .inr rfl)
    (hs : swapsWithSole [.Tuple [.Name y1 p1, .Name y2 p3, .Name y3 p4] kk p2] (.Name x px) pos.line X.env = pure false := by rfl) (hw : swappedStores [.Tuple [.Name y1 p1, .Name y2 p3, .Name y3 p4] kk p2] (.Name x px) X.env = pure none := by rfl)
    (ha : (assignEach [.Tuple [.Name y1 p1, .Name y2 p3, .Name y3 p4] kk p2] X.env).map (·.2) = [assign (.Tuple [.Name y1 p1, .Name y2 p3, .Name y3 p4] kk p2) X.env] := by rfl) :
    JS (opn tb) X (.Assign [.Tuple [.Name y1 p1, .Name y2 p3, .Name y3 p4] kk p2] (.Name x px) pos) (qOpn i j k l) := by
  refine ⟨fun W => tAsg (tVar i) (gLst X.K 3 (gCons (gName j) (gCons (gName k) (gCons (gName l) gNil)))), fun W tk _ => ps_asg (pv i hNi hv hd hcd) (pg_lst hc (pgs_cons (pg_name hN h1 l1 f1) (pgs_cons (pg_name hN h2 l2 f2) (pgs_cons (pg_name hN h3 l3 f3) pgs_nil)))) hs hw ha, fun W D P B N H σ ρ R C q => ?_⟩
  obtain ⟨hi, q⟩ := q
  obtain ⟨x1, ex, a, o, rfl, g1, ⟨t, m, c, cs, rfl, g2, g3⟩, g4, _⟩ := R.ok i _ hi
  refine ⟨.ref a, ex, a, _, rfl, .inl (.inl g1), rfl, .int t, _, rfl, .int m, _, rfl, .ref c, _, rfl, rfl, ?_⟩
  exact C.nx N H _ _ (((R.setV (.int t)).setV (.int m)).setV (.lst g2 RpAll.ints)) (q t m cs g3)
/-- draws[n] = e, n 0 or 1 -/
def qPut (i : Nat) (pa pb : PTE) : PTS := fun P ρ => pa P.ex ρ fun d ρ1 => (∃ n, d = .int n) ∧ ρ1[i]? = some .src ∧ pb P.ex ρ1 fun k ρ2 => (k = .int 0 ∨ k = .int 1) ∧ ρ2[i]? = some .src ∧ P.nx ρ2
theorem js_put (i : Nat) {x : Str} {px pt : Pos} {e b : Expr} {pa pb : PTE} (ha : JE (opn tb) X e pa) (hb : JE (opn tb) X b pb) (hN : X.N[i]? = some x := by rfl) (hv : Vis X.env.scope x := by first | exact Or.inl rfl | exact Or.inr (Or.inl rfl) | exact Or.inr (Or.inr rfl)) (hd : (x == ("__debug__" : Str)) = false := by decide)
    (hcd : (x == ("__classdict__" : Str)) = false := by decide)
    (hg : ∀ v, assign (.Subscript (.Name x px) b pt) X.env v = (do
      let ov ← holding [v] (eval (.Name x px) X.env)
      let iv ← holding [v, ov] (eval b X.env)
      standAt pt
      holding [v, ov, iv] (setItem ov iv v)
      release [v, ov, iv] []) := by intro _; rfl)
    (hs : swapsWithSole [.Subscript (.Name x px) b pt] e pos.line X.env = pure false := by rfl) (hw : swappedStores [.Subscript (.Name x px) b pt] e X.env = pure none := by rfl)
    (h1 : (assignEach [.Subscript (.Name x px) b pt] X.env).map (·.2) = [assign (.Subscript (.Name x px) b pt) X.env] := by rfl) : JS (opn tb) X (.Assign [.Subscript (.Name x px) b pt] e pos) (qPut i pa pb) := by
  obtain ⟨t, a1, a2⟩ := ha
  obtain ⟨u, b1, b2⟩ := hb
  refine ⟨fun W => tAsg (t W) (L2.gSub (tVar i) (u W) rSetL), fun W k _ => ps_asg (a1 W k) (pg_sub (pv i hN hv hd hcd) (b1 W k) set_list hg) hs hw h1, fun W D P B N H σ ρ R C q => a2 W P.ex B N H σ ρ _ _ R C.w q fun N1 H1 v d ρ1 R1 e1 r q1 => ?_⟩
  obtain ⟨⟨n, rfl⟩, hi, q1⟩ := q1
  cases r
  obtain ⟨x1, ex, a, o, rfl, _⟩ := R1.ok i _ hi
  refine ⟨.ref a, ex, b2 W P.ex B N1 H1 σ ρ1 _ _ R1 C.w q1 fun N2 H2 y dy ρ2 R2 e2 r2 q2 => ?_⟩
  obtain ⟨hk, hi2, q2⟩ := q2
  obtain ⟨x2, ex2, a', o, e, g1, ⟨t, m, c, cs, rfl, g2, g3⟩, _⟩ := R2.ok i _ hi2
  rw [ex] at ex2
  cases ex2
  cases e
  rcases hk with rfl | rfl <;> cases r2
  · exact ⟨a, _, 0, 0, rfl, rfl, g1, rfl, C.nx N2 _ σ _ (R2.srcSet hi2 ex ⟨n, m, c, cs, rfl, g2, g3⟩) q2⟩
  · exact ⟨a, _, 1, 1, rfl, rfl, g1, rfl, C.nx N2 _ σ _ (R2.srcSet hi2 ex ⟨t, n, c, cs, rfl, g2, g3⟩) q2⟩
/-- x = e, e a new list of three: a source from here on -/
def qSetOpn (i : Nat) (p : PTR) : PTS := fun P ρ => p P.ex ρ fun r ρ1 => (∃ (t m : Int) (cs : List Int), r = .own [.int t, .int m, .list (cs.map PyData.int)] ∧ cs ≠ []) ∧ P.nx (ρ1.set i .src)
theorem js_setOpn (i : Nat) {x : Str} {pos' : Pos} (hN : X.N.Nodup) (h : JR (opn tb) X e pr) (hi : X.N[i]? = some x := by rfl) (hx : Loc X.env.scope x := by first | exact Or.inl rfl | exact Or.inr rfl) (hs : swapsWith e (some (.Name x pos')) pos.line X.env = pure false := by rfl)
    (hf : X.fn x = true ∨ X.env.scope.names.lookup x = some .local := by first | exact .inl rfl | exact .inr rfl | assumption) : JS (opn tb) X (.Assign [.Name x pos'] e pos) (qSetOpn i pr) := by
  obtain ⟨t, a1, a2⟩ := h
  refine ⟨fun W => tAsg (t W) (gName i), fun W k _ => ps_set hN hi hx (a1 W k) hs hf, fun W D P B N H σ ρ R C q => a2 W P.ex B N H σ ρ _ _ R C.w q fun N1 H1 v r ρ1 R1 _ ok q1 => ?_⟩
  obtain ⟨⟨t, m, cs, rfl, ne⟩, q1⟩ := q1
  obtain ⟨a, vs, rfl, h1, h2, h3, h4, h5⟩ := ok
  match vs, h2 with
  | [_, _, _], .cons r1 (.cons r2 (.cons r3 .nil)) =>
    cases r1
    cases r2
    cases r3 with
    | lst g1 g2 =>
      have e := g2.of_ints
      subst e
      exact C.nx N1 H1 _ _ (R1.set (x := some (.ref a)) (s := .src) ⟨a, _, rfl, h1, ⟨t, m, _, cs, rfl, g1, ne⟩, h3, .inr h4⟩ fun _ c hc j s ne hj hm hh => by
        cases hc
        exact h5 j s hj hm hh) q1
/-- gcd(a, b) -/
def gGcd : GC := fun ds Q => match ds with
  | [.int i, .int j] => Q (.int ((Nat.gcd i.natAbs j.natAbs : Nat) : Int))
  | _ => False
theorem cs_gcd {K : PySem.W.Frag} : CS K S rGcd gGcd := fun B N H σ ρ vs ds Q Q' R r q k => by
  match ds, r, q with
  | [.int i, .int j], .cons r1 (.cons r2 .nil), q =>
    cases r1
    cases r2
    exact ⟨i, j, rfl, k N H _ _ R (Ex.refl _) (.int _) q⟩
theorem je_callBf {id : String} {r : List V → Hp → VK → Prop} {gc : GC} {x : Str} {qs : PTA} (hc : CallR X (.builtin id) r) (hr : CS X.K S r gc) (hg : Gl X x) (hm : X.mg x = some (.builtin id)) (ha : JA S X (e :: es) qs) (hdb : (x == ("__debug__" : Str)) = false := by decide)
    (he : starEach (e :: es) X.env = (false, eval e X.env) :: starEach es X.env := by rfl) (hpl : (backTo pos (starEach es X.env)).any (·.1) = false := by rfl) : JE S X (.Call (.Name x p) (e :: es) [] pos) (pCB gc qs) := by
  obtain ⟨t, h1, h2⟩ := ha
  exact ⟨fun W => tCB r (t W), fun W h => pe_callBfun hc hg hm (h1 W h) hdb he hpl, sim_cb hr h2⟩
/-- // and % of any divisor but 0 -/
def CDivZ (_ j : Int) : Prop := j ≠ 0 ∧ j.natAbs.log2 < 9000
abbrev gDivZ : G2 := gI CDivZ fun i j => .int (i.fdiv j)
abbrev gModZ : G2 := gI (fun _ j => j ≠ 0) fun i j => .int (i.fmod j)
theorem op_divZ : OpR X (binaryOp .FloorDiv) (rI CDivZ fun i j => .int (i.fdiv j)) := opI fun _ _ _ _ _ _ _ hc q => PyProof.Rows.floordiv_int hc.1 q (.inl (PyProof.noPylong_of_log2 hc.2))
theorem je_divZ (ha : JE S X a pa) (hb : JE S X b pb) : JE S X (.BinOp a .FloorDiv b pos) (pBin gDivZ pa pb) := je_op op_divZ (s_I fun _ _ _ => .int _) ha hb
theorem je_modZ (ha : JE S X a pa) (hb : JE S X b pb) : JE S X (.BinOp a .Mod b pos) (pBin gModZ pa pb) := je_op op_modN (s_I fun _ _ _ => .int _) ha hb
end
end PD

set_option Elab.async false
set_option linter.all false
set_option maxRecDepth 100000
/-! The classes of exceptions. -/
namespace PD
open PySem L2
/-- where the classes stand -/
structure Ec where
  DocketError : Addr
  OutOfRange : Addr
  Malformed : Addr
  NotThere : Addr
  Refused : Addr
  TooMuch : Addr
inductive Ek where
  | O | M | N | R | T
  deriving DecidableEq
abbrev Ec.at (e : Ec) : Ek → Addr
  | .O => e.OutOfRange
  | .M => e.Malformed
  | .N => e.NotThere
  | .R => e.Refused
  | .T => e.TooMuch
/-- what is known of the classes of cs -/
structure XF (K : PySem.W.Frag) (e : Ec) (cs : List Ek) : Prop where
  exm : ∀ a ∈ cs, PySem.W.exmOne K (.ref (e.at a)) (.ref e.DocketError) = some true
  kit : ∀ a ∈ cs, ∀ b ∈ cs, PySem.W.kitOne K (.ref (e.at a)) (.ref (e.at b)) = some (decide (a = b))
  kitV : ∀ a ∈ cs, PySem.W.kitOne K (.ref (e.at a)) (.type "ValueError") = some true
  exc : ∀ a ∈ cs, ExcC K (e.at a)
theorem exm_mk {K : PySem.W.Frag} {C D : Addr} (b : PySem.W.subIn K (.ref D) (.type "BaseException") = some true) (i : PySem.W.isClsIn K D = true) (t : PySem.W.typeIn K (.ref D) = some (.type "type")) (s : PySem.W.subIn K (.ref C) (.ref D) = some true) : PySem.W.exmOne K (.ref C) (.ref D) = some true := by
  unfold PySem.W.exmOne PySem.W.kitCls
  have i2 : (PySem.W.clsIn K D).isSome = true := i
  simp [b, t, i2, s]
theorem kit_self {K : PySem.W.Frag} {C : Addr} : PySem.W.kitOne K (.ref C) (.ref C) = some true := by unfold PySem.W.kitOne; simp
theorem kit_no {K : PySem.W.Frag} {C D : Addr} (i : PySem.W.isClsIn K D = true) (t : PySem.W.typeIn K (.ref D) = some (.type "type")) (s : PySem.W.subIn K (.ref C) (.ref D) = some false) (c : PySem.W.subIn K (.ref D) (.ref D) = some true) : PySem.W.kitOne K (.ref C) (.ref D) = some false := by
  unfold PySem.W.kitOne PySem.W.kitCls
  have i2 : (PySem.W.clsIn K D).isSome = true := i
  have ne : C ≠ D := fun z => by
    subst z
    rw [s] at c
    cases c
  have ne2 : ((Value.ref C == Value.ref D) = true) = False := by
    simp [ne]
  simp [ne, t, i2, s]
theorem kit_V {K : PySem.W.Frag} {C : Addr} (s : PySem.W.subIn K (.ref C) (.type "ValueError") = some true) : PySem.W.kitOne K (.ref C) (.type "ValueError") = some true := by
  unfold PySem.W.kitOne PySem.W.kitCls
  rw [if_neg (fun z => by simp at z)]
  show (if PySem.W.kitMeta "ValueError" = true then _ else _) = _
  rw [if_pos (by decide)]
  exact s
end PD

set_option Elab.async false
set_option linter.all false
set_option maxRecDepth 100000
/-! Helpers of the plain proofs. -/
namespace PD
open PySem L2
theorem szl {n : Nat} (h : n ≤ 100000) : n < sizeLine := by rw [sizeLine_eq]; omega
theorem szn (n : Nat) (h : n ≤ 16777216 := by decide) : n ≤ sizeLine := by rw [sizeLine_eq]; exact h
theorem seq_i {p q : PTS} {P : PEn} {ρ : List Sl} (h : ∀ k : List Sl → Prop, k = q P → p { P with nx := k } ρ) : qSeq p q P ρ := h _ rfl
theorem for_i {pi : PTI} {pg : PTG} {pb : PTS} {P : PEn} {ρ : List Sl} (I : Nat → List Sl → Prop) (h : pi P.ex ρ fun ds ρ1 => I 0 ρ1 ∧ (∀ (i : Nat) (d : PyData) (ρ : List Sl), ds[i]? = some d → I i ρ → pg d ρ fun ρ2 => pb { P with nx := I (i + 1), ct := I (i + 1), bk := P.nx } ρ2) ∧ ∀ ρ, I ds.length ρ → P.nx ρ)
    (mono : ∀ (Q Q' : List PyData → List Sl → Prop), (∀ ds ρ, Q ds ρ → Q' ds ρ) → pi P.ex ρ Q → pi P.ex ρ Q' := by intro Q Q' hq hp; first | exact hq _ _ hp) : qFor pi pg pb P ρ :=
  mono _ _ (fun ds ρ1 z => ⟨I, z⟩) h
/-- over range(n), n a number -/
theorem for_rng {q : PTA} {pg : PTG} {pb : PTS} {P : PEn} {ρ : List Sl} (n : Int) (I : Nat → List Sl → Prop) (hn : rOk n) (h0 : I 0 ρ)
    (hs : ∀ (i : Nat) (ρ : List Sl), (i : Int) < n → I i ρ → pg (.int i) ρ fun ρ2 => pb { P with nx := I (i + 1), ct := I (i + 1), bk := P.nx } ρ2) (he : ∀ ρ, I n.toNat ρ → P.nx ρ) (hq : ∀ Q, Q [.int n] ρ → q P.ex ρ Q := by exact fun _ h => h) : qFor (piRng1 q) pg pb P ρ := by
  refine hq _ ⟨hn, I, h0, fun i d ρ hd hi => ?_, fun ρ hi => he ρ ?_⟩
  · obtain ⟨hl, rfl⟩ := rngD_get hd
    have := hs i ρ (by omega) hi
    rw [Int.zero_add]
    exact this
  · rw [rngD_length] at hi
    exact hi
theorem for_rng2 {q : PTA} {pg : PTG} {pb : PTS} {P : PEn} {ρ : List Sl} (a b : Int) (I : Nat → List Sl → Prop) (ha : rOk a) (hb : rOk b) (h0 : I 0 ρ)
    (hs : ∀ (i : Nat) (ρ : List Sl), a + (i : Int) < b → I i ρ → pg (.int (a + i)) ρ fun ρ2 => pb { P with nx := I (i + 1), ct := I (i + 1), bk := P.nx } ρ2) (he : ∀ ρ, I (b - a).toNat ρ → P.nx ρ) (hq : ∀ Q, Q [.int a, .int b] ρ → q P.ex ρ Q := by exact fun _ h => h) : qFor (piRng2 q) pg pb P ρ := by
  refine hq _ ⟨ha, hb, I, h0, fun i d ρ hd hi => ?_, fun ρ hi => he ρ ?_⟩
  · obtain ⟨hl, rfl⟩ := rngD_get hd
    exact hs i ρ (by omega) hi
  · rw [rngD_length] at hi
    exact hi
/-- over a list or a tuple, told ahead -/
theorem for_seq {p : PTE} {pg : PTG} {pb : PTS} {P : PEn} {ρ : List Sl} {ρ1 : List Sl} (d : PyData) (ds : List PyData) (I : Nat → List Sl → Prop) (hd : d = .list ds ∨ d = .tuple ds) (h0 : I 0 ρ1)
    (hs : ∀ (i : Nat) (d : PyData) (ρ : List Sl), ds[i]? = some d → I i ρ → pg d ρ fun ρ2 => pb { P with nx := I (i + 1), ct := I (i + 1), bk := P.nx } ρ2) (he : ∀ ρ, I ds.length ρ → P.nx ρ) (hp : ∀ Q, Q d ρ1 → p P.ex ρ Q := by exact fun _ h => h) : qFor (piSeq p) pg pb P ρ := by
  refine hp _ ?_
  rcases hd with rfl | rfl
  · exact ⟨I, h0, hs, he⟩
  · exact ⟨I, h0, hs, he⟩
theorem eqv_ii (i j : Int) : PyData.eqv (.int i) (.int j) = (i == j) := rfl
theorem eqv_ss (i j : Str) : PyData.eqv (.str i) (.str j) = (i == j) := rfl
theorem eqv_bb (i j : Bool) : PyData.eqv (.bool i) (.bool j) = (i == j) := rfl
theorem eqv_is (i : Int) (j : Str) : PyData.eqv (.int i) (.str j) = false := rfl
theorem eqv_si (i : Str) (j : Int) : PyData.eqv (.str i) (.int j) = false := rfl
theorem eqv_nn : PyData.eqv .none .none = true := rfl
theorem eqv_ni (j : Int) : PyData.eqv .none (.int j) = false := rfl
theorem eqv_in (j : Int) : PyData.eqv (.int j) .none = false := rfl
theorem eqv_bi (i : Bool) (j : Int) : PyData.eqv (.bool i) (.int j) = ((if i then 1 else 0) == j) := rfl
theorem eqv_ib (i : Int) (j : Bool) : PyData.eqv (.int i) (.bool j) = (i == (if j then 1 else 0)) := rfl
/-- less than 9000 bits -/
def Wd (i : Int) : Prop := i.natAbs < 2 ^ 9000
theorem wdS {i : Int} (h : i.natAbs < 18446744073709551616) : Wd i := Nat.lt_of_lt_of_le h (by rw [show 18446744073709551616 = 2 ^ 64 by decide]; exact Nat.pow_le_pow_right (by decide) (by decide))
theorem wdP {i : Int} (k : Nat) (hk : k ≤ 9000) (h : i.natAbs < 2 ^ k) : Wd i := Nat.lt_of_lt_of_le h (Nat.pow_le_pow_right (by decide) hk)
theorem mulOk {i j : Int} (hi : Wd i) (hj : Wd j) : CMulA i j := by
  refine .inr ?_
  have a := PySem.Flt.log2_lt_of (k := 9000) (by decide) hi
  have b := PySem.Flt.log2_lt_of (k := 9000) (by decide) hj
  show _ + _ < 1000000
  omega
theorem mulS {i j : Int} (h : i.natAbs < 2 ^ 63 ∨ j.natAbs < 2 ^ 63) : CMulA i j := by
  refine .inl ?_
  have : (2 : Nat) ^ 63 = 9223372036854775808 := by decide
  omega
theorem divOk {i j : Int} (h : 0 < j) (hj : Wd j) : CDivA i j := ⟨h, .inr (PySem.Flt.log2_lt_of (k := 9000) (by decide) hj)⟩
theorem divS {i j : Int} (h : 0 < j) (hj : j < 18446744073709551616) : CDivA i j := ⟨h, .inl hj⟩
theorem natAbs_lt {i : Int} {b : Nat} (h1 : -(b : Int) < i) (h2 : i < (b : Int)) : i.natAbs < b := by omega
/-- a list comprehension: item d gives g d, or nothing -/
theorem lc_fm {frz vs : List Nat} {pi : PTI} {pg : PTG} {pt : PTT} {pe : PTE} {wp : PWh} {ρ : List Sl} {Q : Rt → List Sl → Prop} (ds : List PyData) (ρ1 : List Sl) (g : PyData → Option PyData) (hl : ds.length < sizeLine)
    (h : ∀ d ∈ ds, ∀ (Y : PyData → List Sl → Prop) (N : List Sl → Prop), (∀ y ρ5, g d = some y → wipeS ρ5 vs = blkS vs (frzL frz ρ1) → Y y ρ5) → (∀ ρ5, g d = none → wipeS ρ5 vs = blkS vs (frzL frz ρ1) → N ρ5) →
      pg d (blkS vs (frzL frz ρ1)) fun ρ3 => pt w0 ρ3 fun b ρ4 => if b = true then pe w0 ρ4 Y else N ρ4) (hQ : Q (.own (ds.filterMap g)) (frzL frz ρ1)) (hpi : ∀ Q, Q ds ρ1 → pi wp ρ Q := by exact fun _ h => h) : pLc frz vs pi pg pt pe wp ρ Q := by
  refine hpi _ ⟨fun i acc => acc = (ds.take i).filterMap g, rfl, fun i d acc hd ha => ?_, fun acc ha => ?_⟩
  · subst ha
    have hlt : i < ds.length := (List.getElem?_eq_some_iff.mp hd).1
    have e : ds.take (i + 1) = ds.take i ++ [d] := by rw [List.take_add_one, hd]; rfl
    have hlen : ((ds.take i).filterMap g).length < sizeLine := by
      have a := List.length_filterMap_le g (ds.take i)
      have b := List.length_take_le i ds
      omega
    refine h d (List.mem_of_getElem? hd) _ _ (fun y ρ5 hy hw => ⟨hlen, ?_, hw⟩) fun ρ5 hn hw => ⟨?_, hw⟩
    · show _ = (ds.take (i + 1)).filterMap g
      rw [e, List.filterMap_append]
      simp [hy]
    · show _ = (ds.take (i + 1)).filterMap g
      rw [e, List.filterMap_append]
      simp [hn]
  · subst ha
    show Q (.own ((ds.take ds.length).filterMap g)) _
    rw [List.take_length]
    exact hQ
theorem powS {i j : Int} (h : 0 ≤ j ∧ j ≤ 1000000 ∧ i.natAbs < 18446744073709551616) : CPowA i j := h
/-- name = [..], then the rest -/
theorem seq_lc {i : Nat} {frz vs : List Nat} {pi : PTI} {pg : PTG} {pt : PTT} {pe : PTE} {q : PTS} {P : PEn} {ρ : List Sl} (ds : List PyData) (ρ1 : List Sl) (g : PyData → Option PyData) (hl : ds.length < sizeLine)
    (h : ∀ d ∈ ds, ∀ (Y : PyData → List Sl → Prop) (N : List Sl → Prop), (∀ y ρ5, g d = some y → wipeS ρ5 vs = blkS vs (frzL frz ρ1) → Y y ρ5) → (∀ ρ5, g d = none → wipeS ρ5 vs = blkS vs (frzL frz ρ1) → N ρ5) →
      pg d (blkS vs (frzL frz ρ1)) fun ρ3 => pt w0 ρ3 fun b ρ4 => if b = true then pe w0 ρ4 Y else N ρ4) (hQ : q P ((frzL frz ρ1).set i (.own (ds.filterMap g)))) (hpi : ∀ Q, Q ds ρ1 → pi P.ex ρ Q := by exact fun _ h => h) : qSeq (qSet i (pLc frz vs pi pg pt pe)) q P ρ :=
  lc_fm (wp := P.ex) (ρ := ρ) (Q := fun r ρ1 => q P (ρ1.set i (slOf r))) ds ρ1 g hl h hQ hpi
theorem fm_ints (f : Int → Int) (ns : List Int) (g : PyData → Option PyData) (h : ∀ i, g (.int i) = some (.int (f i))) : (ns.map PyData.int).filterMap g = (ns.map f).map PyData.int := by
  induction ns with
  | nil => rfl
  | cons i r ih => simp [h, ih]
theorem atI_ints {cs : List Int} {i : Int} (h0 : 0 ≤ i) (h1 : i < cs.length) : ∃ c, atI (cs.map PyData.int) i = some (.int c) := by
  obtain ⟨k, rfl⟩ := Int.eq_ofNat_of_zero_le h0
  have hk : k < cs.length := by omega
  exact ⟨cs[k], atI_nat (by rw [List.getElem?_map, List.getElem?_eq_getElem hk]; rfl)⟩
theorem isE {K : PySem.W.Frag} {i : Nat} {a C D : Addr} {b : Bool} {wp : PWh} {ρ : List Sl} {Q : PKe} (hC : ExcC K D) (hk : PySem.W.kitOne K (.ref D) (.ref C) = some b) : pIsE K i a C (.ref D) wp ρ Q ↔ (ρ[i]? = some (.exc a (.ref D)) ∧ Q (.bool b) ρ) := by
  unfold pIsE
  constructor
  · rintro ⟨D', b', h1, h2, h3, h4, q⟩
    cases h1
    rw [hk] at h3
    cases h3
    exact ⟨h4, q⟩
  · rintro ⟨h, q⟩
    exact ⟨D, b, rfl, hC, hk, h, q⟩
theorem isB {K : PySem.W.Frag} {i : Nat} {a D : Addr} {T : String} {b : Bool} {wp : PWh} {ρ : List Sl} {Q : PKe} (hC : ExcC K D) (hk : PySem.W.kitOne K (.ref D) (.type T) = some b) : pIsB K i a T (.ref D) wp ρ Q ↔ (ρ[i]? = some (.exc a (.ref D)) ∧ Q (.bool b) ρ) := by
  unfold pIsB
  constructor
  · rintro ⟨D', b', h1, h2, h3, h4, q⟩
    cases h1
    rw [hk] at h3
    cases h3
    exact ⟨h4, q⟩
  · rintro ⟨h, q⟩
    exact ⟨D, b, rfl, hC, hk, h, q⟩
/-- what a loop wants, once its items are known -/
def FB (I : Nat → List Sl → Prop) (pg : PTG) (pb : PTS) (P : PEn) (ds : List PyData) (ρ : List Sl) : Prop := I 0 ρ ∧ (∀ (i : Nat) (d : PyData) (ρ : List Sl), ds[i]? = some d → I i ρ → pg d ρ fun ρ2 => pb { P with nx := I (i + 1), ct := I (i + 1), bk := P.nx } ρ2) ∧ ∀ ρ, I ds.length ρ → P.nx ρ
/-- a loop whose items take some steps: the body is hidden meanwhile -/
theorem for_h {pi : PTI} {pg : PTG} {pb : PTS} {P : PEn} {ρ : List Sl} (h : ∀ g b, g = pg → b = pb → pi P.ex ρ fun ds ρ1 => ∃ I, FB I g b P ds ρ1) : qFor pi pg pb P ρ := h pg pb rfl rfl
theorem fb_rng {I : Nat → List Sl → Prop} {pg : PTG} {pb : PTS} {P : PEn} {lo : Int} {n : Nat} {ρ : List Sl} (h0 : I 0 ρ) (hs : ∀ (i : Nat) (ρ : List Sl), i < n → I i ρ → pg (.int (lo + i)) ρ fun ρ2 => pb { P with nx := I (i + 1), ct := I (i + 1), bk := P.nx } ρ2) (he : ∀ ρ, I n ρ → P.nx ρ) : FB I pg pb P (rngD lo n) ρ := by
  refine ⟨h0, fun i d ρ hd hi => ?_, fun ρ hi => he ρ ?_⟩
  · obtain ⟨hl, rfl⟩ := rngD_get hd
    exact hs i ρ hl hi
  · rw [rngD_length] at hi
    exact hi
end PD

set_option Elab.async false
set_option linter.all false
set_option maxRecDepth 100000
set_option maxHeartbeats 1000000
/-! More to walk over, more calls: told over data. -/
namespace PD
open PySem L2 GxR HGx RZ
section
variable {S : Src} {X : Cx} {e a b c d : Expr} {es : List Expr} {pos p p2 pos2 : Pos} {pa pb pc pd : PTE} {pr : PTR} {qs : PTA}
/-! ### a op b op c op d -/
def tChain3 (r r' r'' : R2) (ta tb tc td : TE) : TE := fun σ H Q => ta σ H fun x H1 => tb σ H1 fun y H2 => r x y H2 fun z H3 => ∃ k, z = .bl k ∧
  (if k = true then tc σ H3 fun v H4 => r' y v H4 fun z2 H5 => ∃ k2, z2 = .bl k2 ∧ (if k2 = true then td σ H5 fun u H6 => r'' v u H6 Q else Q (.bl false) H5) else Q (.bl false) H3)
theorem pe_chain3 {op op' op'' : CmpOp} {r r' r'' : R2} {ta tb tc td : TE} (ho : OpR X (compareOp op) r) (ho' : OpR X (compareOp op') r') (ho'' : OpR X (compareOp op'') r'') (ha : PE X a ta) (hb : PE X b tb) (hc : PE X c tc) (hd : PE X d td)
    (hm : lastMarks [op, op', op''] [b, c, d] = false := by with_unfolding_all rfl) : PE X (.Compare a [op, op', op''] [b, c, d] pos) (tChain3 r r' r'' ta tb tc td) := by
  refine ⟨fun pins s σ H Q I h => ?_⟩
  refine PyProof.Rows.Compare_chain (thn (ha.run pins s σ H _ I h) fun v s1 ⟨x, H1, I1, r1, q1⟩ => PyProof.Rows.chain_link (thn (hb.run pins s1 σ H1 _ I1 q1) fun u s2 ⟨y, H2, I2, r2, q2⟩ =>
    thn (ho pins s2 σ H2 x y v u _ I2 r1 r2 q2) fun w s3 ⟨z, H3, I3, r3, k, e, q3⟩ => ?_)) hm
  subst e
  cases r3
  refine wpAny_of_eq (a := k) (by cases k <;> rfl) ?_
  cases k with
  | false => exact ⟨.bl false, H3, I3, rfl, q3⟩
  | true =>
    rw [if_pos rfl] at q3 ⊢
    refine PyProof.Rows.chain_link (thn (hc.run pins s3 σ H3 _ I3 q3) fun v3 s4 ⟨y3, H4, I4, r4, q4⟩ => thn (ho' pins s4 σ H4 y y3 u v3 _ I4 r2 r4 q4) fun w s5 ⟨z, H5, I5, r5, k2, e, q5⟩ => ?_)
    subst e
    cases r5
    refine wpAny_of_eq (a := k2) (by cases k2 <;> rfl) ?_
    cases k2 with
    | false => exact ⟨.bl false, H5, I5, rfl, q5⟩
    | true =>
      rw [if_pos rfl] at q5 ⊢
      exact PyProof.Rows.chain_last (thn (hd.run pins s5 σ H5 _ I5 q5) fun v6 s6 ⟨y6, H6, I6, r6, q6⟩ => ho'' pins s6 σ H6 y3 y6 v3 v6 _ I6 r4 r6 q6)
def pChain3 (g g' g'' : G2) (pa pb pc pd : PTE) : PTE := fun wp ρ Q => pa wp ρ fun dx ρ1 => pb wp ρ1 fun dy ρ2 => g dx dy fun z => match z with
  | .bool k => if k = true then pc wp ρ2 fun dz ρ3 => g' dy dz fun z2 => match z2 with
    | .bool k2 => if k2 = true then pd wp ρ3 fun dw ρ4 => g'' dz dw fun d => Q d ρ4 else Q (.bool false) ρ3
    | _ => False else Q (.bool false) ρ2
  | _ => False
theorem je_ch3 {op op' op'' : CmpOp} {g g' g'' : G2} (h : Cm S X op g) (h' : Cm S X op' g') (h'' : Cm S X op'' g'') (ha : JE S X a pa) (hb : JE S X b pb) (hc : JE S X c pc) (hd : JE S X d pd) (hm : lastMarks [op, op', op''] [b, c, d] = false := by with_unfolding_all rfl) :
    JE S X (.Compare a [op, op', op''] [b, c, d] pos) (pChain3 g g' g'' pa pb pc pd) := by
  obtain ⟨r, o1, s1⟩ := h.ex
  obtain ⟨r', o2, s2⟩ := h'.ex
  obtain ⟨r'', o3, s3⟩ := h''.ex
  obtain ⟨ta, a1, a2⟩ := ha
  obtain ⟨tb, b1, b2⟩ := hb
  obtain ⟨tc, c1, c2⟩ := hc
  obtain ⟨td, d1, d2⟩ := hd
  refine ⟨fun W => tChain3 r r' r'' (ta W) (tb W) (tc W) (td W), fun W k => pe_chain3 o1 o2 o3 (a1 W k) (b1 W k) (c1 W k) (d1 W k) hm, fun W wp B N H σ ρ Q Q' R hw q k =>
    a2 W wp B N H σ ρ _ _ R hw q fun N1 H1 x dx ρ1 R1 e1 r1 q1 => b2 W wp B N1 H1 σ ρ1 _ _ R1 hw q1 fun N2 H2 y dy ρ2 R2 e2 r2 q2 => s1 B N2 H2 σ ρ2 x y dx dy _ _ R2 (r1.up e2) r2 q2 fun N3 H3 v d R3 e3 r3 q3 => ?_⟩
  cases r3 with
  | bl kk =>
    refine ⟨kk, rfl, ?_⟩
    cases kk with
    | false => exact k N3 H3 _ _ ρ2 R3 ((e1.trans e2).trans e3) (.bl _) q3
    | true =>
      rw [if_pos rfl]
      have q3 := (show pc wp ρ2 fun dz ρ3 => g' dy dz fun z2 => match z2 with | .bool k2 => if k2 = true then pd wp ρ3 fun dw ρ4 => g'' dz dw fun d => Q' d ρ4 else Q' (.bool false) ρ3 | _ => False from q3)
      refine c2 W wp B N3 H3 σ ρ2 _ _ R3 hw q3 fun N4 H4 z dz ρ3 R4 e4 r4 q4 => s2 B N4 H4 σ ρ3 y z dy dz _ _ R4 ((r2.up e3).up e4) r4 q4 fun N5 H5 v d R5 e5 r5 q5 => ?_
      cases r5 with
      | bl kk =>
        refine ⟨kk, rfl, ?_⟩
        cases kk with
        | false => exact k N5 H5 _ _ ρ3 R5 ((((e1.trans e2).trans e3).trans e4).trans e5) (.bl _) q5
        | true =>
          rw [if_pos rfl]
          have q5 := (show pd wp ρ3 fun dw ρ4 => g'' dz dw fun d => Q' d ρ4 from q5)
          exact d2 W wp B N5 H5 σ ρ3 _ _ R5 hw q5 fun N6 H6 u du ρ4 R6 e6 r6 q6 => s3 B N6 H6 σ ρ4 z u dz du _ _ R6 ((r4.up e5).up e6) r6 q6 fun N7 H7 v d R7 e7 r7 q7 =>
            k N7 H7 v d ρ4 R7 ((((((e1.trans e2).trans e3).trans e4).trans e5).trans e6).trans e7) r7 q7
      | _ => exact q5.elim
  | _ => exact q3.elim
/-! ### zip, enumerate -/
def zipD (xs ys : List PyData) : List PyData := List.zipWith (fun x y => PyData.tuple [x, y]) xs ys
theorem zipD_get {xs ys : List PyData} {i : Nat} {d : PyData} (h : (zipD xs ys)[i]? = some d) : ∃ x y, xs[i]? = some x ∧ ys[i]? = some y ∧ d = .tuple [x, y] := by
  unfold zipD at h
  rw [List.getElem?_zipWith] at h
  cases hx : xs[i]? with
  | none => rw [hx] at h; simp at h
  | some x =>
    cases hy : ys[i]? with
    | none => rw [hx, hy] at h; simp at h
    | some y =>
      rw [hx, hy] at h
      exact ⟨x, y, rfl, rfl, (Option.some.inj h).symm⟩
theorem zipD_length {xs ys : List PyData} : (zipD xs ys).length = min xs.length ys.length := by unfold zipD; simp
def piZip (q : PTA) : PTI := fun wp ρ Q => q wp ρ fun ds ρ1 => match ds with
  | [.list xs, .list ys] => Q (zipD xs ys) ρ1
  | [.tuple xs, .tuple ys] => Q (zipD xs ys) ρ1
  | _ => False
theorem pair_new {K : PySem.W.Frag} {N : Hp} {T : Addr} {x y : V} {dx dy : PyData} (hN : N T = none) (rx : Rp K N x dx) (ry : Rp K N y dy) : Rp K (upd N T (.tup [x, y])) (.ref T) (.tuple [dx, dy]) :=
  .tup (.inl (.inl upd_same)) (.cons (rx.up (Ex.new hN)) (.cons (ry.up (Ex.new hN)) .nil))
theorem itok_zip {K : PySem.W.Frag} {N : Hp} {a b : Addr} {vs ws : List V} {ds es : List PyData} (h1 : SqL K N a vs) (h2 : RpAll K N vs ds) (g1 : SqL K N b ws) (g2 : RpAll K N ws es) : ItOk K N (Itz K a b) (zipD ds es) := fun N2 H2 e1 e2 i => by
  have hq : SqL K H2 a vs := ex_l e2 (ex_l e1 h1)
  have gq : SqL K H2 b ws := ex_l e2 (ex_l e1 g1)
  refine ⟨fun d hd => ?_, fun hl => ⟨vs, ws, hq, gq, by rw [zipD_length] at hl; rw [h2.length, g2.length]; omega⟩⟩
  obtain ⟨dx, dy, hx, hy, rfl⟩ := zipD_get hd
  obtain ⟨x, k1, k2⟩ := h2.get hx
  obtain ⟨y, k3, k4⟩ := g2.get hy
  refine ⟨⟨vs, ws, x, y, hq, gq, k1, k3⟩, fun v H3 yl => ?_⟩
  obtain ⟨T, x', y', rfl, hT, rfl, a1, a2⟩ := yl
  have e1' := a1 vs hq
  rw [k1] at e1'
  cases e1'
  have e2' := a2 ws gq
  rw [k3] at e2'
  cases e2'
  exact .inr ⟨T, _, hT, rfl, pair_new (e2.none hT) (k2.up e1) (k4.up e1)⟩
theorem itok_zipT {K : PySem.W.Frag} {N : Hp} {a b : Addr} {vs ws : List V} {ds es : List PyData} (h1 : SqT K N a vs) (h2 : RpAll K N vs ds) (g1 : SqT K N b ws) (g2 : RpAll K N ws es) : ItOk K N (ItzT K a b) (zipD ds es) := fun N2 H2 e1 e2 i => by
  have hq : SqT K H2 a vs := ex_t e2 (ex_t e1 h1)
  have gq : SqT K H2 b ws := ex_t e2 (ex_t e1 g1)
  refine ⟨fun d hd => ?_, fun hl => ⟨vs, ws, hq, gq, by rw [zipD_length] at hl; rw [h2.length, g2.length]; omega⟩⟩
  obtain ⟨dx, dy, hx, hy, rfl⟩ := zipD_get hd
  obtain ⟨x, k1, k2⟩ := h2.get hx
  obtain ⟨y, k3, k4⟩ := g2.get hy
  refine ⟨⟨vs, ws, x, y, hq, gq, k1, k3⟩, fun v H3 yl => ?_⟩
  obtain ⟨T, x', y', rfl, hT, rfl, a1, a2⟩ := yl
  have e1' := a1 vs hq
  rw [k1] at e1'
  cases e1'
  have e2' := a2 ws gq
  rw [k3] at e2'
  cases e2'
  exact .inr ⟨T, _, hT, rfl, pair_new (e2.none hT) (k2.up e1) (k4.up e1)⟩
theorem ji_zip {elts : List Expr} {kk : Nat} {tpos : Pos} (hg : Gl X "zip") (hm : X.mg "zip" = none) (ha : JA S X [a, b] qs)
    (hs : starEach [a, b] X.env = (false, eval a X.env) :: starEach [b] X.env := by rfl) (hpl : (backTo pos (starEach [b] X.env)).any (·.1) = false := by rfl) : JI S X (.Tuple elts kk tpos) (.Call (.Name "zip" p) [a, b] [] pos) (piZip qs) := by
  obtain ⟨t, a1, a2⟩ := ha
  refine ⟨fun W => iZipA X.K (t W), fun W k => pi_zipA hg hm (a1 W k) hs hpl, fun W wp B N H σ ρ R Q' RR hw q k => a2 W wp B N H σ ρ _ _ RR hw q fun N1 H1 vs ds ρ1 R1 e1 r q1 => ?_⟩
  match ds, r, q1 with
  | [.list xs, .list ys], .cons r1 (.cons r2 .nil), q1 =>
    cases r1 with
    | lst h1 h2 => cases r2 with
      | lst g1 g2 => exact ⟨_, _, _, _, rfl, .inl ⟨.inl (.inl (R1.sub _ _ h1)), .inl (.inl (R1.sub _ _ g1)), k N1 H1 _ _ ρ1 R1 e1 (itok_zip (.inl (.inl h1)) h2 (.inl (.inl g1)) g2) q1⟩⟩
  | [.tuple xs, .tuple ys], .cons r1 (.cons r2 .nil), q1 =>
    cases r1 with
    | tup h1 h2 => cases r2 with
      | tup g1 g2 => exact ⟨_, _, _, _, rfl, .inr ⟨ex_t R1.sub h1, ex_t R1.sub g1, k N1 H1 _ _ ρ1 R1 e1 (itok_zipT h1 h2 g1 g2) q1⟩⟩
/-- 0, x0; 1, x1; .. -/
def enumD (xs : List PyData) : List PyData := xs.mapIdx fun i x => PyData.tuple [.int (i : Int), x]
theorem enumD_get {xs : List PyData} {i : Nat} {d : PyData} (h : (enumD xs)[i]? = some d) : ∃ x, xs[i]? = some x ∧ d = .tuple [.int (i : Int), x] := by
  unfold enumD at h
  rw [List.getElem?_mapIdx] at h
  cases hx : xs[i]? with
  | none => rw [hx] at h; simp at h
  | some x => rw [hx] at h; exact ⟨x, rfl, (Option.some.inj h).symm⟩
theorem enumD_length {xs : List PyData} : (enumD xs).length = xs.length := by unfold enumD; simp
def piEnum (q : PTA) : PTI := fun wp ρ Q => q wp ρ fun ds ρ1 => match ds with
  | [.list xs] => Q (enumD xs) ρ1
  | _ => False
theorem itok_enum {K : PySem.W.Frag} {N : Hp} {a : Addr} {vs : List V} {ds : List PyData} (h1 : SqL K N a vs) (h2 : RpAll K N vs ds) : ItOk K N (Ite K a) (enumD ds) := fun N2 H2 e1 e2 i => by
  have hq : SqL K H2 a vs := ex_l e2 (ex_l e1 h1)
  refine ⟨fun d hd => ?_, fun hl => ⟨vs, hq, by rw [enumD_length] at hl; rw [h2.length]; exact hl⟩⟩
  obtain ⟨dx, hx, rfl⟩ := enumD_get hd
  obtain ⟨x, k1, k2⟩ := h2.get hx
  refine ⟨⟨vs, x, hq, k1⟩, fun v H3 yl => ?_⟩
  obtain ⟨T, x', rfl, hT, rfl, a1⟩ := yl
  have e1' := a1 vs hq
  rw [k1] at e1'
  cases e1'
  exact .inr ⟨T, _, hT, rfl, pair_new (e2.none hT) (.int _) (k2.up e1)⟩
theorem ji_enum {elts : List Expr} {kk : Nat} {tpos : Pos} (hg : Gl X "enumerate") (hm : X.mg "enumerate" = none) (ha : JA S X [a] qs) (hs : starEach [a] X.env = [(false, eval a X.env)] := by rfl) :
    JI S X (.Tuple elts kk tpos) (.Call (.Name "enumerate" p) [a] [] pos) (piEnum qs) := by
  obtain ⟨t, a1, a2⟩ := ha
  refine ⟨fun W => iEnum X.K (t W), fun W k => pi_enum hg hm (a1 W k) hs, fun W wp B N H σ ρ R Q' RR hw q k => a2 W wp B N H σ ρ _ _ RR hw q fun N1 H1 vs ds ρ1 R1 e1 r q1 => ?_⟩
  match ds, r, q1 with
  | [.list xs], .cons r1 .nil, q1 =>
    cases r1 with
    | lst h1 h2 => exact ⟨_, _, rfl, .inl (.inl (R1.sub _ _ h1)), k N1 H1 _ _ ρ1 R1 e1 (itok_enum (.inl (.inl h1)) h2) q1⟩
/-! ### sorted(x), x a list of ints -/
def pSortI (q : PTE) : PTR := fun wp ρ Q => q wp ρ fun d ρ1 => match d with
  | .list ds => ∃ ns : List Int, ds = ns.map PyData.int ∧ ∀ ms : List Int, ms.Perm ns → ms.Pairwise (· ≤ ·) → Q (.own (ms.map PyData.int)) ρ1
  | _ => False
theorem jr_sortI (hg : Gl X "sorted") (hm : X.mg "sorted" = none) (ha : JE S X e pa) (hs : starEach [e] X.env = (false, eval e X.env) :: starEach [] X.env := by rfl) : JR S X (.Call (.Name "sorted" p) [e] [] pos) (pSortI pa) := by
  obtain ⟨t, a1, a2⟩ := ha
  refine ⟨fun W => tCB (rSortedI X.K) (tCons (t W) tNil), fun W k => pe_callB cr_sortedI hg hm (by decide +kernel) (pa_cons (a1 W k) pa_nil hs) (by decide) (by decide) hs (by rfl), fun W wp B N H σ ρ Q Q' R hw q k => a2 W wp B N H σ ρ _ _ R hw q fun N1 H1 v d ρ1 R1 e1 r q1 => ?_⟩
  cases r with
  | lst h1 h2 =>
    obtain ⟨ns, rfl, q1⟩ := q1
    have ev := h2.of_ints
    subst ev
    exact ⟨_, ns, rfl, .inl (.inl (R1.sub _ _ h1)), fun ms l hp hw hl => k N1 _ (.ref l) (.own _) ρ1 (R1.newH hl) e1 ⟨l, _, rfl, upd_same, RpAll.ints, R1.sub.none hl, R1.fresh hl, R1.away hl⟩ (q1 ms hp hw)⟩
  | _ => exact q1.elim
/-! ### new lists: a + b, a * n, list(range(..)) -/
def pCat (pa pb : PTE) : PTR := fun wp ρ Q => pa wp ρ fun dx ρ1 => pb wp ρ1 fun dy ρ2 => match dx, dy with
  | .list xs, .list ys => xs.length + ys.length ≤ sizeLine ∧ Q (.own (xs ++ ys)) ρ2
  | _, _ => False
def pRep (pa pb : PTE) : PTR := fun wp ρ Q => pa wp ρ fun dx ρ1 => pb wp ρ1 fun dy ρ2 => match dx, dy with
  | .list xs, .int j => -9223372036854775808 ≤ j ∧ j < 9223372036854775808 ∧ xs.length * j.toNat ≤ sizeLine ∧ Q (.own (List.replicate j.toNat xs).flatten) ρ2
  | _, _ => False
def pLstRg1 (pa : PTE) : PTR := fun wp ρ Q => pa wp ρ fun dx ρ1 => match dx with
  | .int n => RgOk 0 n ∧ Q (.own (rngD 0 n.toNat)) ρ1
  | _ => False
def pLstRg2 (pa pb : PTE) : PTR := fun wp ρ Q => pa wp ρ fun dx ρ1 => pb wp ρ1 fun dy ρ2 => match dx, dy with
  | .int n, .int m => RgOk n m ∧ Q (.own (rngD n (m - n).toNat)) ρ2
  | _, _ => False
def pTupRg1 (pa : PTE) : PTE := fun wp ρ Q => pa wp ρ fun dx ρ1 => match dx with
  | .int n => RgOk 0 n ∧ Q (.tuple (rngD 0 n.toNat)) ρ1
  | _ => False
theorem own_new {K : PySem.W.Frag} {B : Bs} {N H : Hp} {σ : St} {ρ : List Sl} {l : Addr} {vs : List V} {ds : List PyData} (R : Rel K S B N H σ ρ) (hl : H l = none) (r : RpAll K N vs ds) : ROk K S B N (upd H l (.lst vs)) σ ρ (.ref l) (.own ds) :=
  ⟨l, vs, rfl, upd_same, r, R.sub.none hl, R.fresh hl, R.away hl⟩
theorem rgV_rp {K : PySem.W.Frag} {N : Hp} {i j : Int} : RpAll K N (rgV i j) (rngD i (j - i).toNat) := by
  unfold rgV rngD
  generalize (j - i).toNat = n
  induction List.range n with
  | nil => exact .nil
  | cons k r ih => exact .cons (.int _) ih
theorem jr_cat (ha : JE S X a pa) (hb : JE S X b pb) : JR S X (.BinOp a .Add b pos) (pCat pa pb) := by
  obtain ⟨t, a1, a2⟩ := ha
  obtain ⟨u, b1, b2⟩ := hb
  refine ⟨fun W => tOp _ (t W) (u W), fun W k => pe_op op_cat (a1 W k) (b1 W k), fun W wp B N H σ ρ Q Q' R hw q k => a2 W wp B N H σ ρ _ _ R hw q fun N1 H1 x dx ρ1 R1 e1 r1 q1 => b2 W wp B N1 H1 σ ρ1 _ _ R1 hw q1 fun N2 H2 y dy ρ2 R2 e2 r2 q2 => ?_⟩
  have r1' := r1.up e2
  match dx, dy, r1', r2, q2 with
  | .list xs, .list ys, .lst h1 h2, .lst g1 g2, q2 =>
    refine ⟨_, _, _, _, rfl, rfl, R2.sub _ _ h1, R2.sub _ _ g1, by rw [h2.length, g2.length]; exact q2.1, fun l hl => ?_⟩
    exact k N2 _ (.ref l) (.own _) ρ2 (R2.newH hl) (e1.trans e2) (own_new R2 hl (h2.append g2)) q2.2
theorem jr_rep (ha : JE S X a pa) (hb : JE S X b pb) : JR S X (.BinOp a .Mult b pos) (pRep pa pb) := by
  obtain ⟨t, a1, a2⟩ := ha
  obtain ⟨u, b1, b2⟩ := hb
  refine ⟨fun W => tOp _ (t W) (u W), fun W k => pe_op op_rep (a1 W k) (b1 W k), fun W wp B N H σ ρ Q Q' R hw q k => a2 W wp B N H σ ρ _ _ R hw q fun N1 H1 x dx ρ1 R1 e1 r1 q1 => b2 W wp B N1 H1 σ ρ1 _ _ R1 hw q1 fun N2 H2 y dy ρ2 R2 e2 r2 q2 => ?_⟩
  have r1' := r1.up e2
  match dx, dy, r1', r2, q2 with
  | .list xs, .int j, .lst h1 h2, .int _, q2 =>
    refine ⟨_, j, _, rfl, rfl, R2.sub _ _ h1, q2.1, q2.2.1, by rw [h2.length]; exact q2.2.2.1, fun l hl => ?_⟩
    exact k N2 _ (.ref l) (.own _) ρ2 (R2.newH hl) (e1.trans e2) (own_new R2 hl (h2.rep _)) q2.2.2.2
theorem jr_listRg1 (hc : X.calm = true) (hg : Gl X "list") (hm : X.mg "list" = none) (hg2 : Gl X "range") (hm2 : X.mg "range" = none) (ha : JE S X a pa) (hs : starEach [a] X.env = (false, eval a X.env) :: starEach [] X.env := by rfl)
    (hs2 : starEach [.Call (.Name "range" p2) [a] [] pos2] X.env = (false, eval (.Call (.Name "range" p2) [a] [] pos2) X.env) :: starEach [] X.env := by rfl) : JR S X (.Call (.Name "list" p) [.Call (.Name "range" p2) [a] [] pos2] [] pos) (pLstRg1 pa) := by
  obtain ⟨t, a1, a2⟩ := ha
  refine ⟨fun W => tLstRg (tRg1 (t W)), fun W k => pe_listRg hc hg hm (prg_1 hg2 hm2 (a1 W k) hs) hs2, fun W wp B N H σ ρ Q Q' R hw q k => a2 W wp B N H σ ρ _ _ R hw q fun N1 H1 x dx ρ1 R1 e1 r1 q1 => ?_⟩
  cases r1 with
  | int n =>
    refine ⟨n, rfl, q1.1, fun l hl => k N1 _ (.ref l) (.own _) ρ1 (R1.newH hl) e1 (own_new R1 hl (rgV_rp (i := 0) (j := n))) ?_⟩
    have := q1.2
    rw [Int.sub_zero]
    exact this
  | _ => exact q1.elim
theorem je_tupRg1 (hc : X.calm = true) (hg : Gl X "tuple") (hm : X.mg "tuple" = none) (hg2 : Gl X "range") (hm2 : X.mg "range" = none) (ha : JE S X a pa) (hs : starEach [a] X.env = (false, eval a X.env) :: starEach [] X.env := by rfl)
    (hs2 : starEach [.Call (.Name "range" p2) [a] [] pos2] X.env = (false, eval (.Call (.Name "range" p2) [a] [] pos2) X.env) :: starEach [] X.env := by rfl) : JE S X (.Call (.Name "tuple" p) [.Call (.Name "range" p2) [a] [] pos2] [] pos) (pTupRg1 pa) := by
  obtain ⟨t, a1, a2⟩ := ha
  refine ⟨fun W => tTupRg (tRg1 (t W)), fun W k => pe_tupRg hc hg hm (prg_1 hg2 hm2 (a1 W k) hs) hs2, fun W wp B N H σ ρ Q Q' R hw q k => a2 W wp B N H σ ρ _ _ R hw q fun N1 H1 x dx ρ1 R1 e1 r1 q1 => ?_⟩
  cases r1 with
  | int n =>
    refine ⟨n, rfl, q1.1, fun l hl => k _ _ (.ref l) _ ρ1 (R1.newM hl) (e1.trans (Ex.new (R1.sub.none hl))) (.tup (.inl (.inl upd_same)) ((rgV_rp (i := 0) (j := n)).up (Ex.new (R1.sub.none hl)))) ?_⟩
    have := q1.2
    rw [Int.sub_zero]
    exact this
  | _ => exact q1.elim
theorem jr_listRg2 (hc : X.calm = true) (hg : Gl X "list") (hm : X.mg "list" = none) (hg2 : Gl X "range") (hm2 : X.mg "range" = none) (ha : JE S X a pa) (hb : JE S X b pb) (hs : starEach [a, b] X.env = (false, eval a X.env) :: starEach [b] X.env := by rfl) (hs' : starEach [b] X.env = (false, eval b X.env) :: starEach [] X.env := by rfl) (hpl : (backTo pos2 (starEach [b] X.env)).any (·.1) = false := by rfl)
    (hs2 : starEach [.Call (.Name "range" p2) [a, b] [] pos2] X.env = (false, eval (.Call (.Name "range" p2) [a, b] [] pos2) X.env) :: starEach [] X.env := by rfl) : JR S X (.Call (.Name "list" p) [.Call (.Name "range" p2) [a, b] [] pos2] [] pos) (pLstRg2 pa pb) := by
  obtain ⟨t, a1, a2⟩ := ha
  obtain ⟨u, b1, b2⟩ := hb
  refine ⟨fun W => tLstRg (tRg2 (t W) (u W)), fun W k => pe_listRg hc hg hm (prg_2 hg2 hm2 (a1 W k) (b1 W k) hs hs' hpl) hs2, fun W wp B N H σ ρ Q Q' R hw q k => a2 W wp B N H σ ρ _ _ R hw q fun N1 H1 x dx ρ1 R1 e1 r1 q1 => b2 W wp B N1 H1 σ ρ1 _ _ R1 hw q1 fun N2 H2 y dy ρ2 R2 e2 r2 q2 => ?_⟩
  have r1' := r1.up e2
  match dx, dy, r1', r2, q2 with
  | .int i, .int j, .int _, .int _, q2 => exact ⟨i, j, rfl, rfl, q2.1, fun l hl => k N2 _ (.ref l) (.own _) ρ2 (R2.newH hl) (e1.trans e2) (own_new R2 hl (rgV_rp (i := i) (j := j))) q2.2⟩
end
/-! ### generator expressions -/
theorem gx_fm {cont : PyData → Prop} {fin : List PyData → (PyData → Prop) → Prop} {frz vs : List Nat} {pi : PTI} {pg : PTG} {pt : PTT} {pe : PTE} {wp : PWh} {ρ : List Sl} {Q : PKe} (ds : List PyData) (ρ1 : List Sl) (g : PyData → Option PyData)
    (h : ∀ (i : Nat) (d : PyData), ds[i]? = some d → (∀ (j : Nat) (d' y : PyData), j < i → ds[j]? = some d' → g d' = some y → cont y) → ∀ (Y : PyData → List Sl → Prop) (N : List Sl → Prop), (∀ y ρ5, g d = some y → wipeS ρ5 vs = blkS vs (frzL frz ρ1) → Y y ρ5) → (∀ ρ5, g d = none → wipeS ρ5 vs = blkS vs (frzL frz ρ1) → N ρ5) →
      pg d (blkS vs (frzL frz ρ1)) fun ρ3 => pt w0 ρ3 fun b ρ4 => if b = true then pe w0 ρ4 Y else N ρ4)
    (hfin : fin (ds.filterMap g) fun d => Q d (frzL frz ρ1)) (hpi : ∀ Q, Q ds ρ1 → pi wp ρ Q := by exact fun _ h => h) : pGx cont fin frz vs pi pg pt pe wp ρ Q := by
  have tk : ∀ i d, ds[i]? = some d → (ds.take (i + 1)).filterMap g = (ds.take i).filterMap g ++ (g d).toList := fun i d hd => by
    rw [List.take_add_one, hd, List.filterMap_append]
    cases hg : g d <;> simp [List.filterMap_cons, hg]
  have whole : ∀ i, ds.filterMap g = (ds.take i).filterMap g ++ (ds.drop i).filterMap g := fun i => by rw [← List.filterMap_append, List.take_append_drop]
  refine hpi _ ⟨ds.filterMap g, ⟨fun i => ((ds.take i).filterMap g).length, rfl, by show ((ds.take ds.length).filterMap g).length = _; rw [List.take_length], fun i hi => ?_, fun i d hd hc => ?_⟩, hfin⟩
  · have := tk i _ (List.getElem?_eq_getElem hi)
    show ((ds.take i).filterMap g).length ≤ ((ds.take (i + 1)).filterMap g).length
    rw [this, List.length_append]
    omega
  · have e := tk i d hd
    refine h i d hd (fun j d' y hj hd' hy => ?_) _ _ (fun y ρ5 hy hw => ⟨?_, ?_, hw⟩) fun ρ5 hn hw => ⟨?_, hw⟩
    · have e2 := tk j d' hd'
      have hlt : ((ds.take j).filterMap g).length < ((ds.take i).filterMap g).length := by
        have hpre : ds.take (j + 1) = (ds.take i).take (j + 1) := by rw [List.take_take, Nat.min_eq_left (by omega)]
        have : ((ds.take i).filterMap g) = ((ds.take (j + 1)).filterMap g) ++ (((ds.take i).drop (j + 1)).filterMap g) := by
          rw [hpre, ← List.filterMap_append, List.take_append_drop]
        rw [this, e2, hy, List.length_append, List.length_append]
        simp
        omega
      refine hc _ y hlt ?_
      rw [whole (j + 1), e2, hy]
      simp
    · rw [whole (i + 1), e, hy]
      simp
    · show ((ds.take (i + 1)).filterMap g).length = _
      rw [e, hy]
      simp
    · show ((ds.take (i + 1)).filterMap g).length = _
      rw [e, hn]
      simp
theorem all_isTru (p : PyData → Bool) (ds : List PyData) : (ds.filterMap fun d => some (PyData.bool (p d))).all isTru = ds.all p := by
  induction ds with
  | nil => rfl
  | cons d r ih => simp only [List.filterMap_cons, List.all_cons, ih]; rfl
theorem any_isTru (p : PyData → Bool) (ds : List PyData) : (ds.filterMap fun d => some (PyData.bool (p d))).any isTru = ds.any p := by
  induction ds with
  | nil => rfl
  | cons d r ih => simp only [List.filterMap_cons, List.any_cons, ih]; rfl
theorem bools {p : PyData → Bool} {ds : List PyData} : ∀ o ∈ ds.filterMap (fun d => some (PyData.bool (p d))), ∃ b, o = .bool b := fun o ho => by
  obtain ⟨d, _, hd⟩ := List.mem_filterMap.mp ho
  exact ⟨_, (Option.some.inj hd).symm⟩
theorem gx_all {frz vs : List Nat} {pi : PTI} {pg : PTG} {pe : PTE} {wp : PWh} {ρ : List Sl} {Q : PKe} (ds : List PyData) (ρ1 : List Sl) (p : PyData → Bool)
    (h : ∀ (i : Nat) (d : PyData), ds[i]? = some d → (∀ (j : Nat) (d' : PyData), j < i → ds[j]? = some d' → p d' = true) → ∀ Y : PyData → List Sl → Prop, (∀ ρ5, wipeS ρ5 vs = blkS vs (frzL frz ρ1) → Y (.bool (p d)) ρ5) → pg d (blkS vs (frzL frz ρ1)) fun ρ3 => pe w0 ρ3 Y)
    (hQ : Q (.bool (ds.all p)) (frzL frz ρ1)) (hpi : ∀ Q, Q ds ρ1 → pi wp ρ Q := by exact fun _ h => h) : pGx (fun d => d = .bool true) fAll frz vs pi pg ptYes pe wp ρ Q := by
  refine gx_fm ds ρ1 (fun d => some (.bool (p d))) (fun i d hd hc Y N hY hN => ?_) ⟨bools, by rw [all_isTru]; exact hQ⟩ hpi
  refine h i d hd (fun j d' hj hd' => ?_) Y fun ρ5 hw => hY _ _ rfl hw
  have := hc j d' _ hj hd' rfl
  injection this
theorem gx_any {frz vs : List Nat} {pi : PTI} {pg : PTG} {pe : PTE} {wp : PWh} {ρ : List Sl} {Q : PKe} (ds : List PyData) (ρ1 : List Sl) (p : PyData → Bool)
    (h : ∀ (i : Nat) (d : PyData), ds[i]? = some d → (∀ (j : Nat) (d' : PyData), j < i → ds[j]? = some d' → p d' = false) → ∀ Y : PyData → List Sl → Prop, (∀ ρ5, wipeS ρ5 vs = blkS vs (frzL frz ρ1) → Y (.bool (p d)) ρ5) → pg d (blkS vs (frzL frz ρ1)) fun ρ3 => pe w0 ρ3 Y)
    (hQ : Q (.bool (ds.any p)) (frzL frz ρ1)) (hpi : ∀ Q, Q ds ρ1 → pi wp ρ Q := by exact fun _ h => h) : pGx (fun d => d = .bool false) fAny frz vs pi pg ptYes pe wp ρ Q := by
  refine gx_fm ds ρ1 (fun d => some (.bool (p d))) (fun i d hd hc Y N hY hN => ?_) ⟨bools, by rw [any_isTru]; exact hQ⟩ hpi
  refine h i d hd (fun j d' hj hd' => ?_) Y fun ρ5 hw => hY _ _ rfl hw
  have := hc j d' _ hj hd' rfl
  injection this
/-- for x in ..: if x is bad: return False -/
theorem for_chk {p : PTE} {pg : PTG} {pb : PTS} {P : PEn} {ρ : List Sl} (d : PyData) (ds : List PyData) (good : PyData → Bool) (f : Sl → List Sl) (x0 : Sl) (hd : d = .list ds ∨ d = .tuple ds)
    (hs : ∀ (x : Sl) (d : PyData) (N : List Sl → Prop), d ∈ ds → (good d = true → N (f (.v d))) → (good d = false → P.rt (.v (.bool false))) → pg d (f x) fun ρ2 => pb { P with nx := N, ct := N, bk := P.nx } ρ2)
    (hg : (∀ d ∈ ds, good d = true) → ∀ x, P.nx (f x)) (hb : ds.all good = false → P.rt (.v (.bool false))) (hp : ∀ Q, Q d (f x0) → p P.ex ρ Q := by exact fun _ h => h) : qFor (piSeq p) pg pb P ρ := by
  refine for_seq d ds (fun i ρ => (∃ x, ρ = f x) ∧ ∀ d ∈ ds.take i, good d = true) hd ⟨⟨x0, rfl⟩, by simp⟩ ?_ ?_ hp
  · rintro i d ρ hd ⟨⟨x, rfl⟩, hi⟩
    refine hs x d _ (List.mem_of_getElem? hd) (fun h => ⟨⟨_, rfl⟩, fun y hy => ?_⟩) fun h => hb ?_
    · rw [List.take_add_one, hd] at hy
      rcases List.mem_append.mp hy with hy | hy
      · exact hi y hy
      · have : y = d := by simpa using hy
        rw [this]; exact h
    · rw [List.all_eq_false]
      exact ⟨d, List.mem_of_getElem? hd, by simp [h]⟩
  · rintro ρ ⟨⟨x, rfl⟩, hi⟩
    rw [List.take_length] at hi
    exact hg hi x
theorem all_rng (p : PyData → Bool) (lo : Int) (n : Nat) : (rngD lo n).all p = (List.range n).all fun i => p (.int (lo + i)) := by unfold rngD; rw [List.all_map]; rfl
theorem any_rng (p : PyData → Bool) (lo : Int) (n : Nat) : (rngD lo n).any p = (List.range n).any fun i => p (.int (lo + i)) := by unfold rngD; rw [List.any_map]; rfl
theorem at_h0 {x0 : PyData} {t : List PyData} : atI (x0 :: t) 0 = some x0 := atI_nat (j := 0) rfl
theorem at_h1 {x0 x1 : PyData} {t : List PyData} : atI (x0 :: x1 :: t) 1 = some x1 := atI_nat (j := 1) rfl
theorem at_h2 {x0 x1 x2 : PyData} {t : List PyData} : atI (x0 :: x1 :: x2 :: t) 2 = some x2 := atI_nat (j := 2) rfl
theorem at_h3 {x0 x1 x2 x3 : PyData} {t : List PyData} : atI (x0 :: x1 :: x2 :: x3 :: t) 3 = some x3 := atI_nat (j := 3) rfl
theorem at_h4 {x0 x1 x2 x3 x4 : PyData} {t : List PyData} : atI (x0 :: x1 :: x2 :: x3 :: x4 :: t) 4 = some x4 := atI_nat (j := 4) rfl
theorem at_h5 {x0 x1 x2 x3 x4 x5 : PyData} {t : List PyData} : atI (x0 :: x1 :: x2 :: x3 :: x4 :: x5 :: t) 5 = some x5 := atI_nat (j := 5) rfl
theorem at_h6 {x0 x1 x2 x3 x4 x5 x6 : PyData} {t : List PyData} : atI (x0 :: x1 :: x2 :: x3 :: x4 :: x5 :: x6 :: t) 6 = some x6 := atI_nat (j := 6) rfl
theorem at_h7 {x0 x1 x2 x3 x4 x5 x6 x7 : PyData} {t : List PyData} : atI (x0 :: x1 :: x2 :: x3 :: x4 :: x5 :: x6 :: x7 :: t) 7 = some x7 := atI_nat (j := 7) rfl
theorem at_last {d : PyData} {t : List PyData} : atI (t ++ [d]) (-1) = some d := by
  have e : ixN (t ++ [d]).length (-1) = some t.length := by
    unfold ixN
    rw [if_neg (by omega), if_pos (by simp; omega), List.length_append]
    simp
    omega
  unfold atI
  rw [e]
  simp
theorem ints_flat (ns : List Int) : (ns.map PyData.int).all flatD = true := List.all_eq_true.mpr fun d hd => by
  obtain ⟨n, _, rfl⟩ := List.mem_map.mp hd
  rfl
theorem mem_ints (n : Int) (ns : List Int) : memD (.int n) (ns.map PyData.int) = decide (n ∈ ns) := by
  unfold memD
  induction ns with
  | nil => rfl
  | cons m r ih =>
    rw [List.map_cons, List.any_cons, ih]
    show ((m == n) || decide (n ∈ r)) = _
    by_cases h : m = n
    · subst h; simp
    · have h2 : ¬ n = m := fun z => h z.symm
      simp [h, h2]
theorem cut_to (ds : List PyData) (k : Nat) : cutD ds none (some (k : Int)) = ds.take k := by
  unfold cutD
  rw [HT.sIx_none, HT.sIx_nat, List.drop_zero, Nat.sub_zero]
  by_cases h : k ≤ ds.length
  · rw [Nat.min_eq_left h]
  · rw [Nat.min_eq_right (by omega), List.take_of_length_le (by omega), List.take_of_length_le (by omega)]
theorem cut_from (ds : List PyData) (k : Nat) : cutD ds (some (k : Int)) none = ds.drop k := by
  unfold cutD
  rw [HT.sIx_none, HT.sIx_nat]
  by_cases h : k ≤ ds.length
  · rw [Nat.min_eq_left h, List.take_of_length_le (by rw [List.length_drop]; omega)]
  · rw [Nat.min_eq_right (by omega), List.drop_eq_nil_of_le (by omega), List.drop_eq_nil_of_le (by omega)]; simp
theorem cut_but (ds : List PyData) (d : PyData) : cutD (ds ++ [d]) none (some (-1)) = ds := by
  unfold cutD
  rw [HT.sIx_none]
  have e : HT.sIx (ds ++ [d]).length (ds ++ [d]).length (some (-1)) = ds.length := by
    show (if (-1 : Int) < 0 then ((-1 : Int) + ((ds ++ [d]).length : Int)).toNat else min (-1 : Int).toNat (ds ++ [d]).length) = _
    rw [if_pos (by decide), List.length_append]
    simp
    omega
  rw [e, List.drop_zero, Nat.sub_zero]
  exact List.take_left' rfl
/-! ### x in name: the list is only looked at -/
def pInN (neg : Bool) (i : Nat) (p : PTE) : PTE := fun wp ρ Q => p wp ρ fun d ρ1 => match seqAt ρ1 i with
  | some ds => inOk d ds ∧ Q (.bool (if neg then !memD d ds else memD d ds)) ρ1
  | none => False
section
variable {S : Src} {X : Cx} {a : Expr} {pos px : Pos} {pa : PTE}
theorem sim_inN {K : PySem.W.Frag} {neg : Bool} {i : Nat} {t : WX → TE} (h : SimE K S t pa) : SimE K S (fun W => tOp (rInA K neg) (t W) (tVar i)) (pInN neg i pa) := fun W wp B N H σ ρ Q Q' R hw q k => h W wp B N H σ ρ _ _ R hw q fun N1 H1 v d ρ1 R1 e1 r q1 => by
  cases hs : PD.seqAt ρ1 i with
  | none => rw [hs] at q1; exact q1.elim
  | some ds =>
    rw [hs] at q1
    obtain ⟨b, vs, ex, hq, hr⟩ := R1.seqAt hs
    refine ⟨.ref b, ex, .inl ⟨_, _, rfl, hq, by rw [flat_rp r]; exact q1.1.1, by rw [flat_all hr]; exact q1.1.2, ?_⟩⟩
    rw [inV_rp r q1.1.1 hr q1.1.2]
    exact k N1 H1 _ _ ρ1 R1 e1 (.bl _) q1.2
theorem je_inN (i : Nat) {x : Str} (ha : JE S X a pa) (hN : X.N[i]? = some x := by rfl) (hv : Vis X.env.scope x := by first | exact Or.inl rfl | exact Or.inr (Or.inl rfl) | exact Or.inr (Or.inr rfl)) (hd : (x == ("__debug__" : Str)) = false := by decide)
    (hcd : (x == ("__classdict__" : Str)) = false := by decide) (hm : behindInMarks .In (.Name x px) = false := by rfl) : JE S X (.Compare a [.In] [.Name x px] pos) (pInN false i pa) := by
  obtain ⟨t, a1, a2⟩ := ha
  exact ⟨fun W => tOp (rInA X.K false) (t W) (tVar i), fun W h => pe_cmpR op_inA (a1 W h) (pv i hN hv hd hcd) hm, sim_inN a2⟩
theorem je_notinN (i : Nat) {x : Str} (ha : JE S X a pa) (hN : X.N[i]? = some x := by rfl) (hv : Vis X.env.scope x := by first | exact Or.inl rfl | exact Or.inr (Or.inl rfl) | exact Or.inr (Or.inr rfl)) (hd : (x == ("__debug__" : Str)) = false := by decide)
    (hcd : (x == ("__classdict__" : Str)) = false := by decide) (hm : behindInMarks .NotIn (.Name x px) = false := by rfl) : JE S X (.Compare a [.NotIn] [.Name x px] pos) (pInN true i pa) := by
  obtain ⟨t, a1, a2⟩ := ha
  exact ⟨fun W => tOp (rInA X.K true) (t W) (tVar i), fun W h => pe_cmpR op_notInA (a1 W h) (pv i hN hv hd hcd) hm, sim_inN a2⟩
theorem jt_inN (i : Nat) {x : Str} (ha : JE S X a pa) (hN : X.N[i]? = some x := by rfl) (hv : Vis X.env.scope x := by first | exact Or.inl rfl | exact Or.inr (Or.inl rfl) | exact Or.inr (Or.inr rfl)) (hd : (x == ("__debug__" : Str)) = false := by decide)
    (hcd : (x == ("__classdict__" : Str)) = false := by decide) (hm : behindInMarks .In (.Name x px) = false := by rfl) : JT S X (.Compare a [.In] [.Name x px] pos) (pTest (pInN false i pa)) := by
  obtain ⟨t, a1, a2⟩ := ha
  exact ⟨fun W => tTest (tOp (rInA X.K false) (t W) (tVar i)), fun W h => pt_cmpR op_inA (a1 W h) (pv i hN hv hd hcd) hm, sim_test (sim_inN a2)⟩
theorem jt_notinN (i : Nat) {x : Str} (ha : JE S X a pa) (hN : X.N[i]? = some x := by rfl) (hv : Vis X.env.scope x := by first | exact Or.inl rfl | exact Or.inr (Or.inl rfl) | exact Or.inr (Or.inr rfl)) (hd : (x == ("__debug__" : Str)) = false := by decide)
    (hcd : (x == ("__classdict__" : Str)) = false := by decide) (hm : behindInMarks .NotIn (.Name x px) = false := by rfl) : JT S X (.Compare a [.NotIn] [.Name x px] pos) (pTest (pInN true i pa)) := by
  obtain ⟨t, a1, a2⟩ := ha
  exact ⟨fun W => tTest (tOp (rInA X.K true) (t W) (tVar i)), fun W h => pt_cmpR op_notInA (a1 W h) (pv i hN hv hd hcd) hm, sim_test (sim_inN a2)⟩
end
/-! ### displays, item by item -/
/-- the value is d, and nothing changes -/
def Evs (p : PTE) (ρ : List Sl) (d : PyData) : Prop := ∀ wp (Q : PKe), Q d ρ → p wp ρ Q
def EvA (q : PTA) (ρ : List Sl) (ds : List PyData) : Prop := ∀ wp (Q : List PyData → List Sl → Prop), Q ds ρ → q wp ρ Q
theorem evA_nil {ρ : List Sl} : EvA pNil ρ [] := fun wp Q h => h
theorem evA_cons {p : PTE} {q : PTA} {ρ : List Sl} {d : PyData} {ds : List PyData} (h : Evs p ρ d) (t : EvA q ρ ds) : EvA (pCons p q) ρ (d :: ds) := fun wp Q k => h wp _ (t wp _ k)
theorem ev_tup {q : PTA} {ρ : List Sl} {ds : List PyData} (h : EvA q ρ ds) (hs : ds.length ≤ sizeLine) : Evs (pTup q) ρ (.tuple ds) := fun wp Q k => h wp _ ⟨hs, k⟩
theorem ev_lst {q : PTA} {ρ : List Sl} {ds : List PyData} (h : EvA q ρ ds) (hs : ds.length ≤ sizeLine) : Evs (pRE (pLst q)) ρ (.list ds) := fun wp Q k => h wp _ ⟨hs, k⟩
theorem ev_c {ρ : List Sl} {d : PyData} : Evs (pC d) ρ d := fun wp Q k => k
theorem ev_name {i : Nat} {ρ : List Sl} {d : PyData} (h : ρ[i]? = some (.v d)) : Evs (pName i) ρ d := fun wp Q k => by
  show match ρ[i]? with | some (.v d) => Q d ρ | some (.own ds) => Q (.list ds) (ρ.set i (.v (.list ds))) | _ => False
  rw [h]
  exact k
theorem ev_bin {g : G2} {p p' : PTE} {ρ : List Sl} {d d' r : PyData} (h : Evs p ρ d) (h' : Evs p' ρ d') (hg : ∀ Q : PyData → Prop, Q r → g d d' Q) : Evs (pBin g p p') ρ r := fun wp Q k => h wp _ (h' wp _ (hg _ k))
theorem seq_lst {i : Nat} {q : PTA} {k : PTS} {P : PEn} {ρ : List Sl} (ds : List PyData) (h : EvA q ρ ds) (hs : ds.length ≤ sizeLine) (hk : k P (ρ.set i (.own ds))) : qSeq (qSet i (pLst q)) k P ρ := h _ _ ⟨hs, hk⟩
theorem set_lst {i : Nat} {q : PTA} {P : PEn} {ρ : List Sl} (ds : List PyData) (h : EvA q ρ ds) (hs : ds.length ≤ sizeLine) (hk : P.nx (ρ.set i (.own ds))) : qSet i (pLst q) P ρ := h _ _ ⟨hs, hk⟩
theorem seq_ev {i : Nat} {p : PTE} {k : PTS} {P : PEn} {ρ : List Sl} (d : PyData) (h : Evs p ρ d) (hk : k P (ρ.set i (.v d))) : qSeq (qSet i (pER p)) k P ρ := h _ _ hk
end PD

set_option linter.all false
/-! Fractions: the plain law. -/
namespace Fr
def sg (w : Int) : Int := if w < 0 then -1 else 1
def gc (p w : Int) : Int := ((Nat.gcd p.natAbs w.natAbs : Nat) : Int)
def lo1 (p w : Int) : Int := sg w * p / gc p w
def lo2 (p w : Int) : Int := sg w * w / gc p w
theorem gc_pos {p w : Int} (h : p ≠ 0 ∨ w ≠ 0) : 0 < gc p w := by
  unfold gc
  have : 0 < Nat.gcd p.natAbs w.natAbs := by
    rcases h with h | h
    · exact Nat.gcd_pos_of_pos_left _ (by omega)
    · exact Nat.gcd_pos_of_pos_right _ (by omega)
  omega
theorem gc_l (p w : Int) : gc p w ∣ p := by unfold gc; exact Int.ofNat_dvd_left.mpr (Nat.gcd_dvd_left _ _)
theorem gc_r (p w : Int) : gc p w ∣ w := by unfold gc; exact Int.ofNat_dvd_left.mpr (Nat.gcd_dvd_right _ _)
theorem gc_le {p w : Int} : (gc p w).natAbs ≤ max p.natAbs w.natAbs := by
  unfold gc
  rw [Int.natAbs_natCast]
  by_cases hw : w.natAbs = 0
  · rw [hw, Nat.gcd_zero_right]; omega
  · have := Nat.gcd_le_right p.natAbs (Nat.pos_of_ne_zero hw)
    omega
theorem fd_l {p w : Int} (h : p ≠ 0 ∨ w ≠ 0) (x : Int) (hx : gc p w ∣ x) : x.fdiv (if w < 0 then -gc p w else gc p w) = sg w * x / gc p w := by
  unfold sg
  split
  · rw [Int.fdiv_eq_ediv_of_dvd (by rw [Int.neg_dvd]; exact hx), Int.ediv_neg, Int.neg_one_mul, Int.neg_ediv_of_dvd hx]
  · rw [Int.fdiv_eq_ediv_of_dvd hx, Int.one_mul]
theorem sg_abs (w x : Int) : (sg w * x).natAbs = x.natAbs := by
  unfold sg
  split
  · rw [Int.neg_one_mul, Int.natAbs_neg]
  · rw [Int.one_mul]
theorem sg_dvd {w x g : Int} (h : g ∣ x) : g ∣ sg w * x := Int.dvd_trans h (Int.dvd_mul_left _ _)
theorem sg_nn (w : Int) : 0 ≤ sg w * w := by
  unfold sg
  split <;> omega
theorem lo2_pos {p w : Int} (h : w ≠ 0) : 0 < lo2 p w := by
  unfold lo2
  have g := gc_pos (p := p) (.inr h)
  obtain ⟨k, hk⟩ := sg_dvd (w := w) (gc_r p w)
  have a := sg_nn w
  have b : sg w * w ≠ 0 := fun z => by
    have := sg_abs w w
    rw [z] at this
    omega
  rw [hk, Int.mul_ediv_cancel_left _ (by omega)]
  by_cases h2 : 0 < k
  · exact h2
  · exfalso
    have : gc p w * k ≤ 0 := Int.mul_nonpos_of_nonneg_of_nonpos (by omega) (by omega)
    omega
theorem lo_abs {p w : Int} (h : p ≠ 0 ∨ w ≠ 0) (x : Int) (hx : gc p w ∣ x) : (sg w * x / gc p w).natAbs * (gc p w).natAbs = x.natAbs := by
  rw [← sg_abs w x, ← Int.natAbs_mul, Int.ediv_mul_cancel (sg_dvd hx)]
theorem lo1_le {p w : Int} (h : p ≠ 0 ∨ w ≠ 0) : (lo1 p w).natAbs ≤ p.natAbs := by
  have a := lo_abs h p (gc_l p w)
  have g := gc_pos h
  have : 1 ≤ (gc p w).natAbs := by omega
  have := Nat.mul_le_mul_left (lo1 p w).natAbs this
  unfold lo1 at *
  omega
theorem lo2_le {p w : Int} (h : p ≠ 0 ∨ w ≠ 0) : (lo2 p w).natAbs ≤ w.natAbs := by
  have a := lo_abs h w (gc_r p w)
  have g := gc_pos h
  have : 1 ≤ (gc p w).natAbs := by omega
  have := Nat.mul_le_mul_left (lo2 p w).natAbs this
  unfold lo2 at *
  omega
theorem lo_gc {p w : Int} (h : p ≠ 0 ∨ w ≠ 0) : gc (lo1 p w) (lo2 p w) = 1 := by
  have a := lo_abs h p (gc_l p w)
  have b := lo_abs h w (gc_r p w)
  have g := gc_pos h
  have e : Nat.gcd (lo1 p w).natAbs (lo2 p w).natAbs * (gc p w).natAbs = (gc p w).natAbs := by
    rw [← Nat.gcd_mul_right]
    unfold lo1 lo2
    rw [a, b]
    show _ = ((Nat.gcd p.natAbs w.natAbs : Nat) : Int).natAbs
    rw [Int.natAbs_natCast]
  have : Nat.gcd (lo1 p w).natAbs (lo2 p w).natAbs = 1 := by
    have hp : 0 < (gc p w).natAbs := by omega
    exact Nat.eq_of_mul_eq_mul_right hp (by rw [e, Nat.one_mul])
  unfold gc
  rw [this]
  rfl
/-- Euclid's way stops in time: P the product of the two, i steps were made -/
structure Eu (p w : Int) (i : Nat) (a b : Int) : Prop where
  a0 : 0 ≤ a
  b0 : 0 ≤ b
  g : Nat.gcd a.natAbs b.natAbs = Nat.gcd p.natAbs w.natAbs
  le : 0 < i → b < a
  pr : a.natAbs * b.natAbs * 2 ^ (i - 1) ≤ p.natAbs * w.natAbs
theorem eu0 (p w : Int) : Eu p w 0 (if p < 0 then -p else p) (if w < 0 then -w else w) := by
  have e : ∀ x : Int, (if x < 0 then -x else x) = (x.natAbs : Int) := fun x => by split <;> omega
  rw [e, e]
  exact ⟨by omega, by omega, by simp, fun z => absurd z (by omega), by simp⟩
theorem eu1 {p w : Int} {i : Nat} {a b : Int} (h : Eu p w i a b) (hb : b ≠ 0) : Eu p w (i + 1) b (a % b) := by
  have hb0 : 0 < b := by have := h.b0; omega
  have m0 := Int.emod_nonneg a hb
  have m1 := Int.emod_lt_of_pos a hb0
  have ea : (a % b).natAbs = a.natAbs % b.natAbs := by
    have h0 := h.a0
    obtain ⟨x, rfl⟩ := Int.eq_ofNat_of_zero_le h0
    obtain ⟨y, rfl⟩ := Int.eq_ofNat_of_zero_le h.b0
    rw [← Int.natCast_emod]
    exact Int.natAbs_natCast _
  refine ⟨h.b0, m0, ?_, fun _ => m1, ?_⟩
  · rw [← h.g, ea, Nat.gcd_comm a.natAbs b.natAbs, Nat.gcd_rec b.natAbs a.natAbs, Nat.gcd_comm]
  · have pr := h.pr
    rw [ea]
    have hbn : 0 < b.natAbs := by omega
    have dm := Nat.div_add_mod a.natAbs b.natAbs
    have ml := Nat.mod_lt a.natAbs hbn
    have le0 : 0 < i → b.natAbs < a.natAbs := fun z => by
      have := h.le z
      have := h.a0
      have := h.b0
      omega
    generalize a.natAbs = x at *
    generalize b.natAbs = y at *
    show y * (x % y) * 2 ^ i ≤ _
    cases i with
    | zero =>
      simp at pr ⊢
      exact Nat.le_trans (Nat.mul_le_mul_left _ (Nat.mod_le x y)) (by rw [Nat.mul_comm]; exact pr)
    | succ j =>
      have le : y < x := le0 (by omega)
      have q1 : 1 ≤ x / y := Nat.div_pos (by omega) hbn
      have two : 2 * (x % y) ≤ x := by
        have : y * 1 ≤ y * (x / y) := Nat.mul_le_mul_left _ q1
        omega
      have e : y * (x % y) * 2 ^ (j + 1) = y * (2 * (x % y)) * 2 ^ j := by
        rw [Nat.pow_succ]
        ac_rfl
      rw [e]
      refine Nat.le_trans ?_ pr
      show _ ≤ x * y * 2 ^ j
      refine Nat.mul_le_mul_right _ ?_
      rw [Nat.mul_comm x y]
      exact Nat.mul_le_mul_left _ two
/-- behind a thousand steps nothing is left -/
theorem eu_end {p w : Int} {i : Nat} {a b : Int} (h : Eu p w i a b) (hi : 901 ≤ i) (hp : p.natAbs < 2 ^ 450) (hw : w.natAbs < 2 ^ 450) : b = 0 := by
  by_cases hb : b = 0
  · exact hb
  · exfalso
    have b0 := h.b0
    have a1 := h.le (by omega)
    have pr := h.pr
    have h1 : 1 ≤ a.natAbs * b.natAbs := Nat.mul_pos (by omega) (by omega)
    have h2 : 2 ^ (i - 1) ≤ a.natAbs * b.natAbs * 2 ^ (i - 1) := Nat.le_mul_of_pos_left _ h1
    have h3 : (2 : Nat) ^ 900 ≤ 2 ^ (i - 1) := Nat.pow_le_pow_right (by decide) (by omega)
    have h4 : p.natAbs * w.natAbs < 2 ^ 450 * 2 ^ 450 := by
      rcases Nat.eq_zero_or_pos p.natAbs with z | z
      · rw [z, Nat.zero_mul]; exact Nat.mul_pos (Nat.pow_pos (by decide)) (Nat.pow_pos (by decide))
      · exact Nat.mul_lt_mul_of_lt_of_lt hp hw
    rw [← Nat.pow_add] at h4
    have h5 : 450 + 450 = 900 := rfl
    rw [h5] at h4
    omega
theorem eu_gc {p w : Int} {i : Nat} {a : Int} (h : Eu p w i a 0) : a = gc p w := by
  have g := h.g
  have a0 := h.a0
  rw [Int.natAbs_zero, Nat.gcd_zero_right] at g
  unfold gc
  omega
end Fr

set_option linter.all false
/-! Fractions as rational numbers. -/
namespace Fr
open PySem PD
def rt (r : Rat) : PyData := .tuple [.int r.num, .int (r.den : Int)]
theorem sg_sign {w : Int} (h : w ≠ 0) : sg w = w.sign := by
  unfold sg
  split
  · rw [Int.sign_eq_neg_one_of_neg (by assumption)]
  · rw [Int.sign_eq_one_of_pos (by omega)]
theorem lo_num {p w : Int} (h : w ≠ 0) : lo1 p w = (Rat.divInt p w).num := by
  rw [Rat.num_divInt, ← sg_sign h]
  unfold lo1 gc
  rw [Int.gcd_comm]
  rfl
theorem lo_den {p w : Int} (h : w ≠ 0) : lo2 p w = ((Rat.divInt p w).den : Int) := by
  rw [Rat.den_divInt, if_neg h]
  have hs : sg w * w = (w.natAbs : Int) := by unfold sg; split <;> omega
  unfold lo2 gc
  rw [hs, Int.gcd_comm]
  rfl
theorem low_rt {p w : Int} (h : w ≠ 0) : PyData.tuple [.int (lo1 p w), .int (lo2 p w)] = rt (Rat.divInt p w) := by rw [lo_num h, lo_den h]; rfl
theorem dv (p w : Int) : Rat.divInt p w = (p : Rat) / w := Rat.divInt_eq_div p w
/-- less than n bits above and below -/
def Z (n : Nat) (r : Rat) : Prop := r.num.natAbs < 2 ^ n ∧ r.den < 2 ^ n
theorem Z.mono {n m : Nat} {r : Rat} (h : Z n r) (hm : n ≤ m) : Z m r := ⟨Nat.lt_of_lt_of_le h.1 (Nat.pow_le_pow_right (by decide) hm), Nat.lt_of_lt_of_le h.2 (Nat.pow_le_pow_right (by decide) hm)⟩
theorem num_le (p : Int) {w : Int} (h : w ≠ 0) : (Rat.divInt p w).num.natAbs ≤ p.natAbs ∧ (Rat.divInt p w).den ≤ w.natAbs := by
  have a := lo1_le (p := p) (.inr h)
  have b := lo2_le (p := p) (.inr h)
  rw [lo_num h] at a
  rw [lo_den h] at b
  exact ⟨a, by simpa using b⟩
theorem Z_div {p w : Int} {n : Nat} (h : w ≠ 0) (hp : p.natAbs < 2 ^ n) (hw : w.natAbs < 2 ^ n) : Z n (Rat.divInt p w) := ⟨Nat.lt_of_le_of_lt (num_le p h).1 hp, Nat.lt_of_le_of_lt (num_le p h).2 hw⟩
theorem den0 (r : Rat) : (r.den : Int) ≠ 0 := by have := r.den_nz; omega
theorem add_rt (r s : Rat) : r + s = Rat.divInt (r.num * s.den + s.num * r.den) (r.den * s.den) := by
  have : ((r.den : Int) * (s.den : Int)) = ((r.den * s.den : Nat) : Int) := by simp
  rw [Rat.add_def', this, Rat.divInt_ofNat]
theorem sub_rt (r s : Rat) : r - s = Rat.divInt (r.num * s.den - s.num * r.den) (r.den * s.den) := by
  have : ((r.den : Int) * (s.den : Int)) = ((r.den * s.den : Nat) : Int) := by simp
  rw [Rat.sub_def', this, Rat.divInt_ofNat]
theorem mul_rt (r s : Rat) : r * s = Rat.divInt (r.num * s.num) (r.den * s.den) := by
  have : ((r.den : Int) * (s.den : Int)) = ((r.den * s.den : Nat) : Int) := by simp
  rw [Rat.mul_def', this, Rat.divInt_ofNat]
theorem div_rt (r s : Rat) (h : s.num ≠ 0) : r / s = Rat.divInt (r.num * s.den) (r.den * s.num) := by
  have hs : s = Rat.divInt s.num s.den := by rw [Rat.num_divInt_den]
  have hr : r = Rat.divInt r.num r.den := by rw [Rat.num_divInt_den]
  rw [Rat.div_def]
  conv => lhs; rw [hr, hs]
  rw [Rat.inv_divInt, Rat.divInt_mul_divInt]
theorem mul_lt {a b n m : Nat} (ha : a < 2 ^ n) (hb : b < 2 ^ m) : a * b < 2 ^ (n + m) := by
  rw [Nat.pow_add]
  rcases Nat.eq_zero_or_pos a with z | z
  · rw [z, Nat.zero_mul]; exact Nat.mul_pos (Nat.pow_pos (by decide)) (Nat.pow_pos (by decide))
  · exact Nat.mul_lt_mul_of_lt_of_lt ha hb
theorem imul_lt {a b : Int} {n m : Nat} (ha : a.natAbs < 2 ^ n) (hb : b.natAbs < 2 ^ m) : (a * b).natAbs < 2 ^ (n + m) := by rw [Int.natAbs_mul]; exact mul_lt ha hb
theorem iadd_lt {a b : Int} {n : Nat} (ha : a.natAbs < 2 ^ n) (hb : b.natAbs < 2 ^ n) : (a + b).natAbs < 2 ^ (n + 1) := by rw [Nat.pow_succ]; omega
theorem isub_lt {a b : Int} {n : Nat} (ha : a.natAbs < 2 ^ n) (hb : b.natAbs < 2 ^ n) : (a - b).natAbs < 2 ^ (n + 1) := by rw [Nat.pow_succ]; omega
theorem ilift {a : Int} {n m : Nat} (h : a.natAbs < 2 ^ n) (hm : n ≤ m) : a.natAbs < 2 ^ m := Nat.lt_of_lt_of_le h (Nat.pow_le_pow_right (by decide) hm)
theorem Z.d {n : Nat} {r : Rat} (h : Z n r) : (r.den : Int).natAbs < 2 ^ n := by simpa using h.2
theorem Z_mul {n m : Nat} {r s : Rat} (hr : Z n r) (hs : Z m s) : Z (n + m) (r * s) := by
  rw [mul_rt]
  exact Z_div (Int.mul_ne_zero (den0 r) (den0 s)) (imul_lt hr.1 hs.1) (imul_lt hr.d hs.d)
theorem Z_add {n m : Nat} {r s : Rat} (hr : Z n r) (hs : Z m s) : Z (n + m + 1) (r + s) := by
  rw [add_rt]
  exact Z_div (Int.mul_ne_zero (den0 r) (den0 s)) (iadd_lt (imul_lt hr.1 hs.d) (ilift (imul_lt hs.1 hr.d) (by omega))) (ilift (imul_lt hr.d hs.d) (by omega))
theorem Z_sub {n m : Nat} {r s : Rat} (hr : Z n r) (hs : Z m s) : Z (n + m + 1) (r - s) := by
  rw [sub_rt]
  exact Z_div (Int.mul_ne_zero (den0 r) (den0 s)) (isub_lt (imul_lt hr.1 hs.d) (ilift (imul_lt hs.1 hr.d) (by omega))) (ilift (imul_lt hr.d hs.d) (by omega))
theorem Z_int {i : Int} {n : Nat} (h : i.natAbs < 2 ^ n) (hn : 1 ≤ n) : Z n (i : Rat) := by
  refine ⟨by simpa using h, ?_⟩
  have : (2 : Nat) ^ 1 ≤ 2 ^ n := Nat.pow_le_pow_right (by decide) hn
  simp
  omega
theorem Z.wn {n : Nat} {r : Rat} (h : Z n r) (hn : n ≤ 9000) : Wd r.num := wdP n hn h.1
theorem Z.wd {n : Nat} {r : Rat} (h : Z n r) (hn : n ≤ 9000) : Wd (r.den : Int) := wdP n hn h.d
/-! ### Euclid by Fibonacci -/
def fib : Nat → Nat × Nat
  | 0 => (0, 1)
  | n + 1 => ((fib n).2, (fib n).1 + (fib n).2)
def ite : Nat → Nat × Nat → Nat × Nat
  | 0, p => p
  | n + 1, (a, b) => ite n (b, a % b)
theorem ite_succ : ∀ (n : Nat) (p : Nat × Nat), ite (n + 1) p = ((ite n p).2, (ite n p).1 % (ite n p).2)
  | 0, (a, b) => rfl
  | n + 1, (a, b) => by
    show ite (n + 1) (b, a % b) = _
    rw [ite_succ n]
    rfl
theorem ite_zero : ∀ (n a : Nat), (ite n (a, 0)).2 = 0 ∨ n = 0 ∨ True := fun _ _ => .inr (.inr trivial)
theorem fib_le : ∀ (n a b : Nat), b < a → (∀ i ≤ n, (ite i (a, b)).2 ≠ 0) → (fib (n + 2)).1 ≤ a ∧ (fib (n + 1)).1 ≤ b
  | 0, a, b, h, hz => by
    have := hz 0 (by omega)
    have : b ≠ 0 := this
    show 1 ≤ a ∧ 1 ≤ b
    omega
  | n + 1, a, b, h, hz => by
    have hb : b ≠ 0 := hz 0 (by omega)
    have hm : a % b < b := Nat.mod_lt _ (by omega)
    have ih := fib_le n b (a % b) hm (fun i hi => hz (i + 1) (by omega))
    have dm := Nat.div_add_mod a b
    have q1 : 1 ≤ a / b := Nat.div_pos (by omega) (by omega)
    have : b * 1 ≤ b * (a / b) := Nat.mul_le_mul_left _ q1
    have e : (fib (n + 1 + 2)).1 = (fib (n + 1)).1 + (fib (n + 2)).1 := rfl
    rw [e]
    exact ⟨by omega, ih.1⟩
theorem fib_big : 2 ^ 650 ≤ (fib 1000).1 := by decide +kernel
/-- Euclid's way stops in time -/
structure Ev (p w : Int) (i : Nat) (a b : Int) : Prop where
  a0 : 0 ≤ a
  b0 : 0 ≤ b
  g : Nat.gcd a.natAbs b.natAbs = Nat.gcd p.natAbs w.natAbs
  it : ite i (p.natAbs, w.natAbs) = (a.natAbs, b.natAbs)
  nz : ∀ j < i, (ite j (p.natAbs, w.natAbs)).2 ≠ 0
theorem ev0 (p w : Int) : Ev p w 0 (if p < 0 then -p else p) (if w < 0 then -w else w) := by
  have e : ∀ x : Int, (if x < 0 then -x else x) = (x.natAbs : Int) := fun x => by split <;> omega
  rw [e, e]
  exact ⟨by omega, by omega, by simp, by simp [ite], fun j hj => absurd hj (by omega)⟩
theorem ev1 {p w : Int} {i : Nat} {a b : Int} (h : Ev p w i a b) (hb : b ≠ 0) : Ev p w (i + 1) b (a % b) := by
  have hb0 : 0 < b := by have := h.b0; omega
  have m0 := Int.emod_nonneg a hb
  have ea : (a % b).natAbs = a.natAbs % b.natAbs := by
    obtain ⟨x, rfl⟩ := Int.eq_ofNat_of_zero_le h.a0
    obtain ⟨y, rfl⟩ := Int.eq_ofNat_of_zero_le h.b0
    rw [← Int.natCast_emod]
    exact Int.natAbs_natCast _
  refine ⟨h.b0, m0, ?_, ?_, fun j hj => ?_⟩
  · rw [← h.g, ea, Nat.gcd_comm a.natAbs b.natAbs, Nat.gcd_rec b.natAbs a.natAbs, Nat.gcd_comm]
  · rw [ite_succ, h.it, ea]
  · by_cases hji : j < i
    · exact h.nz j hji
    · have : j = i := by omega
      subst this
      rw [h.it]
      show b.natAbs ≠ 0
      omega
theorem ev_end {p w : Int} {a b : Int} (h : Ev p w 1000 a b) (hw : w.natAbs < 2 ^ 650) : b = 0 := by
  by_cases hb : b = 0
  · exact hb
  · exfalso
    have z : ∀ j ≤ 1000, (ite j (p.natAbs, w.natAbs)).2 ≠ 0 := fun j hj => by
      by_cases hji : j < 1000
      · exact h.nz j hji
      · have : j = 1000 := by omega
        subst this
        rw [h.it]
        show b.natAbs ≠ 0
        omega
    have w0 : w.natAbs ≠ 0 := z 0 (by omega)
    have f := fib_le 998 w.natAbs (p.natAbs % w.natAbs) (Nat.mod_lt _ (by omega)) (fun i hi => z (i + 1) (by omega))
    have := fib_big
    have e : 998 + 2 = 1000 := rfl
    rw [e] at f
    omega
theorem ev_gc {p w : Int} {i : Nat} {a : Int} (h : Ev p w i a 0) : a = gc p w := by
  have g := h.g
  have a0 := h.a0
  rw [Int.natAbs_zero, Nat.gcd_zero_right] at g
  unfold gc
  omega
end Fr
namespace Fr
theorem eu_endN {p w : Int} {i : Nat} {a b : Int} (h : Eu p w i a b) (hi : 1 ≤ i) (hp : p.natAbs * w.natAbs < 2 ^ (i - 1)) : b = 0 := by
  by_cases hb : b = 0
  · exact hb
  · exfalso
    have b0 := h.b0
    have a1 := h.le (by omega)
    have pr := h.pr
    have h1 : 1 ≤ a.natAbs * b.natAbs := Nat.mul_pos (by omega) (by omega)
    have h2 : 2 ^ (i - 1) ≤ a.natAbs * b.natAbs * 2 ^ (i - 1) := Nat.le_mul_of_pos_left _ h1
    omega
end Fr

set_option linter.all false
/-! Interest: the plain law. -/
namespace Fr
open PySem PD
abbrev RS := List (Int × Rat)
def pos (x : Int) : Int := max 0 x
/-- what a day's rate is -/
def rho : RS → Int → Rat
  | [], _ => 0
  | [(_, r)], _ => r
  | (_, r) :: (d2, r2) :: t, x => if x < d2 then r else rho ((d2, r2) :: t) x
/-- all up to a day -/
def Ux : RS → Int → Rat
  | [], _ => 0
  | [(d, r)], x => r * (pos (x - d) : Int)
  | (d, r) :: (d2, r2) :: t, x => r * (pos (min x d2 - d) : Int) + Ux ((d2, r2) :: t) x
/-- from f on, ahead of b -/
def Px : RS → Int → Int → Rat
  | [], _, _ => 0
  | [(d, r)], f, b => r * (pos (b - max d f) : Int)
  | (d, r) :: (d2, r2) :: t, f, b => r * (pos (min d2 b - max d f) : Int) + Px ((d2, r2) :: t) f b
def Up : RS → Prop
  | [] => True
  | [_] => True
  | (d, _) :: (d2, r2) :: t => d < d2 ∧ Up ((d2, r2) :: t)
theorem Up.tl {p : Int × Rat} {t : RS} (h : Up (p :: t)) : Up t := by
  cases t with
  | nil => trivial
  | cons q t => exact h.2
theorem Ux_low : ∀ (l : RS) (d : Int) (r : Rat) (t : RS), l = (d, r) :: t → Up l → ∀ x, x ≤ d → Ux l x = 0
  | _, d, r, [], rfl, _, x, h => by
    have : pos (x - d) = 0 := by unfold pos; omega
    simp [Ux, this, Rat.mul_zero]
  | _, d, r, (d2, r2) :: t, rfl, up, x, h => by
    have : pos (min x d2 - d) = 0 := by unfold pos; omega
    have ih := Ux_low ((d2, r2) :: t) d2 r2 t rfl up.2 x (by have := up.1; omega)
    simp [Ux, this, ih, Rat.mul_zero, Rat.add_zero]
theorem Ux_up : ∀ (l : RS) (d : Int) (r : Rat) (t : RS), l = (d, r) :: t → Up l → ∀ x, d ≤ x → Ux l (x + 1) = Ux l x + rho l x
  | _, d, r, [], rfl, _, x, h => by
    have e1 : pos (x + 1 - d) = pos (x - d) + 1 := by unfold pos; omega
    simp only [Ux, rho, e1]
    grind
  | _, d, r, (d2, r2) :: t, rfl, up, x, h => by
    have u1 := up.1
    unfold rho
    by_cases hx : x < d2
    · rw [if_pos hx]
      have e1 : pos (min (x + 1) d2 - d) = pos (min x d2 - d) + 1 := by unfold pos; omega
      have l1 := Ux_low ((d2, r2) :: t) d2 r2 t rfl up.2 x (by omega)
      have l2 := Ux_low ((d2, r2) :: t) d2 r2 t rfl up.2 (x + 1) (by omega)
      simp only [Ux, e1, l1, l2]
      grind
    · rw [if_neg hx]
      have e1 : pos (min (x + 1) d2 - d) = pos (min x d2 - d) := by unfold pos; omega
      have ih := Ux_up ((d2, r2) :: t) d2 r2 t rfl up.2 x (by omega)
      simp only [Ux, e1, ih]
      grind
theorem Px_eq : ∀ (l : RS), Up l → ∀ f b, f ≤ b → Px l f b = Ux l b - Ux l f
  | [], _, f, b, h => by simp only [Px, Ux]; grind
  | [(d, r)], _, f, b, h => by
    have e1 : pos (b - max d f) = pos (b - d) - pos (f - d) := by unfold pos; omega
    simp only [Px, Ux, e1]
    grind
  | (d, r) :: (d2, r2) :: t, up, f, b, h => by
    have u1 := up.1
    have e1 : pos (min d2 b - max d f) = pos (min b d2 - d) - pos (min f d2 - d) := by unfold pos; omega
    have ih := Px_eq ((d2, r2) :: t) up.2 f b h
    simp only [Px, Ux, e1, ih]
    grind
/-- the rates of the same days -/
theorem Ux_same {l l' : RS} {r r' : Rat} {t t' : RS} (e : l = (0, r) :: t) (e' : l' = (0, r') :: t') (up : Up l) (up' : Up l') (h : ∀ x, 0 ≤ x → rho l x = rho l' x) (f : Int) (hf : 0 ≤ f) : ∀ n : Nat, Ux l (f + n) - Ux l f = Ux l' (f + n) - Ux l' f
  | 0 => by simp; grind
  | n + 1 => by
    have ih := Ux_same e e' up up' h f hf n
    have a := Ux_up l 0 r t e up (f + n) (by omega)
    have b := Ux_up l' 0 r' t' e' up' (f + n) (by omega)
    have c := h (f + n) (by omega)
    have e1 : f + ((n + 1 : Nat) : Int) = f + n + 1 := by omega
    rw [e1, a, b, c]
    grind
/-- a row cut in two -/
theorem rho_cut : ∀ (l1 : RS) (d : Int) (r : Rat) (t : RS), Up (l1 ++ (d, r) :: t) → (∀ p ∈ t.head?, d + 1 < p.1) → ∀ x, rho (l1 ++ (d, r) :: (d + 1, r) :: t) x = rho (l1 ++ (d, r) :: t) x
  | [], d, r, [], _, _, x => by simp [rho]
  | [], d, r, (d2, r2) :: t, up, h, x => by
    have := h (d2, r2) rfl
    simp only [List.nil_append, rho]
    split
    · rw [if_pos (by simp at this; omega)]
    · rfl
  | [(a, s)], d, r, t, up, h, x => by
    have ih := rho_cut [] d r t up.tl h x
    simp only [List.nil_append] at ih
    simp only [List.cons_append, List.nil_append, rho]
    split
    · rfl
    · exact ih
  | (a, s) :: (b, q) :: l1, d, r, t, up, h, x => by
    have ih := rho_cut ((b, q) :: l1) d r t up.tl h x
    simp only [List.cons_append, rho] at ih ⊢
    split
    · rfl
    · exact ih
theorem up_cut : ∀ (l1 : RS) (d : Int) (r : Rat) (t : RS), Up (l1 ++ (d, r) :: t) → (∀ p ∈ t.head?, d + 1 < p.1) → Up (l1 ++ (d, r) :: (d + 1, r) :: t)
  | [], d, r, [], _, _ => ⟨by omega, trivial⟩
  | [], d, r, (d2, r2) :: t, up, h => ⟨by omega, by have := h (d2, r2) rfl; simpa using this, up.2⟩
  | [(a, s)], d, r, t, up, h => ⟨up.1, up_cut [] d r t up.tl h⟩
  | (a, s) :: (b, q) :: l1, d, r, t, up, h => ⟨up.1, up_cut ((b, q) :: l1) d r t up.tl h⟩
/-- the last row whose first day is not behind the day -/
theorem rho_last : ∀ (l : RS) (d : Int) (r : Rat) (t : RS), l = (d, r) :: t → Up l → ∀ x, d ≤ x → ((l.filter fun p => decide (p.1 ≤ x)).getLast?).map (·.2) = some (rho l x)
  | _, d, r, [], rfl, _, x, h => by simp [rho, h]
  | _, d, r, (d2, r2) :: t, rfl, up, x, h => by
    unfold rho
    by_cases hx : x < d2
    · rw [if_pos hx]
      have none : ∀ (u : RS), (∀ p ∈ u, x < p.1) → u.filter (fun p => decide (p.1 ≤ x)) = [] := fun u hu => List.filter_eq_nil_iff.mpr fun p hp => by have := hu p hp; simp; omega
      have all : ∀ (u : RS) (c : Int), Up u → (∀ p ∈ u.head?, c < p.1) → ∀ p ∈ u, c < p.1 := by
        intro u
        induction u with
        | nil => intro c _ _ p hp; cases hp
        | cons q u ih =>
          intro c hu hc p hp
          have hq := hc q rfl
          rcases List.mem_cons.mp hp with rfl | hp
          · exact hq
          · refine ih c hu.tl (fun s hs => ?_) p hp
            cases u with
            | nil => cases hs
            | cons v u =>
              have : s = v := by simpa using hs.symm
              subst this
              have := hu.1
              omega
      have := none ((d2, r2) :: t) (all _ x up.2 (by simpa using hx))
      rw [List.filter_cons_of_pos (by simpa using h), this]
      rfl
    · rw [if_neg hx]
      have ih := rho_last ((d2, r2) :: t) d2 r2 t rfl up.2 x (by omega)
      rw [List.filter_cons_of_pos (by simpa using h)]
      cases hf : ((d2, r2) :: t).filter (fun p => decide (p.1 ≤ x)) with
      | nil => rw [hf] at ih; cases ih
      | cons q u =>
        rw [hf] at ih
        rw [List.getLast?_cons_cons]
        exact ih
end Fr

set_option linter.all false
/-! Interest: steps, sizes. -/
namespace Fr
open PySem PD
def nxt (l : RS) (i : Nat) (b : Int) : Int := if h : i + 1 < l.length then l[i + 1].1 else b
theorem drop_two {l : RS} {i : Nat} (h : i + 1 < l.length) : l.drop i = l[i] :: l[i + 1] :: l.drop (i + 2) := by
  rw [List.drop_eq_getElem_cons (by omega), List.drop_eq_getElem_cons h]
theorem drop_one {l : RS} {i : Nat} (h : i < l.length) (h2 : ¬ i + 1 < l.length) : l.drop i = [l[i]] := by
  rw [List.drop_eq_getElem_cons h, List.drop_eq_nil_of_le (by omega)]
theorem Px_step (l : RS) (i : Nat) (h : i < l.length) (f b : Int) : Px (l.drop i) f b = l[i].2 * (pos (min (nxt l i b) b - max l[i].1 f) : Int) + Px (l.drop (i + 1)) f b := by
  unfold nxt
  split
  · rename_i h2
    rw [drop_two h2, List.drop_eq_getElem_cons h2]
    rfl
  · rename_i h2
    rw [drop_one h h2, List.drop_eq_nil_of_le (show l.length ≤ i + 1 by omega)]
    have : min b b = b := by omega
    simp only [Px, this]
    grind
theorem Ux_step (l : RS) (i : Nat) (h : i < l.length) (x : Int) : Ux (l.drop i) x = l[i].2 * (pos (min x (nxt l i x) - l[i].1) : Int) + Ux (l.drop (i + 1)) x := by
  unfold nxt
  split
  · rename_i h2
    rw [drop_two h2, List.drop_eq_getElem_cons h2]
    rfl
  · rename_i h2
    rw [drop_one h h2, List.drop_eq_nil_of_le (show l.length ≤ i + 1 by omega)]
    have : min x x = x := by omega
    simp only [Ux, this]
    grind
theorem rho_mem : ∀ (l : RS) (x : Int), l ≠ [] → ∃ p ∈ l, rho l x = p.2
  | [], x, h => absurd rfl h
  | [(d, r)], x, _ => ⟨(d, r), by simp, rfl⟩
  | (d, r) :: (d2, r2) :: t, x, _ => by
    unfold rho
    split
    · exact ⟨(d, r), by simp, rfl⟩
    · obtain ⟨p, h1, h2⟩ := rho_mem ((d2, r2) :: t) x (by simp)
      exact ⟨p, List.mem_cons_of_mem _ h1, h2⟩
/-- a number that all denominators divide -/
def Dl : RS → Nat
  | [] => 1
  | p :: t => p.2.den * Dl t
theorem Dl_pos : ∀ l : RS, 0 < Dl l
  | [] => by decide
  | p :: t => Nat.mul_pos p.2.den_pos (Dl_pos t)
theorem Dl_lt : ∀ l : RS, (∀ p ∈ l, p.2.den ≤ 10000) → Dl l ≤ 10000 ^ l.length
  | [], _ => by decide
  | p :: t, h => by
    have ih := Dl_lt t fun q hq => h q (List.mem_cons_of_mem _ hq)
    rw [List.length_cons, Nat.pow_succ, Nat.mul_comm (10000 ^ t.length)]
    exact Nat.mul_le_mul (h p List.mem_cons_self) ih
theorem rat_den (r : Rat) : r * (r.den : Int) = (r.num : Rat) := by
  have h : r = Rat.divInt r.num r.den := by rw [Rat.num_divInt_den]
  rw [dv] at h
  have d0 : ((r.den : Int) : Rat) ≠ 0 := by
    have := r.den_nz
    intro z
    have : (r.den : Int) = 0 := by exact_mod_cast z
    omega
  grind
theorem Ux_int : ∀ (l : RS) (x : Int), ∃ z : Int, Ux l x * ((Dl l : Int) : Rat) = (z : Rat)
  | [], x => ⟨0, by simp [Ux]⟩
  | [(d, r)], x => by
    have := rat_den r
    refine ⟨r.num * pos (x - d), ?_⟩
    simp only [Ux, Dl]
    rw [Rat.intCast_mul, ← this]
    simp
    grind
  | (d, r) :: (d2, r2) :: t, x => by
    obtain ⟨z, hz⟩ := Ux_int ((d2, r2) :: t) x
    have := rat_den r
    refine ⟨r.num * pos (min x d2 - d) * (Dl ((d2, r2) :: t) : Int) + z * r.den, ?_⟩
    have e : ((Dl ((d, r) :: (d2, r2) :: t) : Int) : Rat) = ((r.den : Int) : Rat) * ((Dl ((d2, r2) :: t) : Int) : Rat) := by
      rw [← Rat.intCast_mul, ← Int.natCast_mul]
      rfl
    rw [e]
    simp only [Ux]
    rw [Rat.intCast_add, Rat.intCast_mul, Rat.intCast_mul, Rat.intCast_mul, ← this, ← hz]
    grind
theorem den_dvd {q : Rat} {D : Nat} {z : Int} (h0 : 0 < D) (h : q * ((D : Int) : Rat) = (z : Rat)) : q.den ∣ D := by
  have d0 : ((D : Int) : Rat) ≠ 0 := by
    intro w
    have : (D : Int) = 0 := by exact_mod_cast w
    omega
  have e : q = Rat.divInt z D := by
    rw [dv]
    grind
  rw [e, Rat.den_divInt, if_neg (by omega)]
  exact Nat.div_dvd_of_dvd (Nat.gcd_dvd_left D z.natAbs)
theorem num_bound {q : Rat} {n : Nat} (h0 : 0 ≤ q) (h1 : q ≤ ((n : Int) : Rat)) : 0 ≤ q.num ∧ q.num ≤ (n : Int) * q.den := by
  refine ⟨Rat.num_nonneg.mpr h0, ?_⟩
  have := (Rat.le_iff _ _).mp h1
  simpa using this
end Fr

set_option Elab.async false
set_option linter.all false
set_option maxRecDepth 100000
namespace K48
open PySem L2 PD
open Fr
def v_LIMIT : PyData := .int 1000000000000000000000000000000000000000000000000000000000000
def v_NOUGHT : PyData := .tuple [.int 0, .int 1]
def v_YEAR : PyData := .int 365
def v_MOST_WHOLE : PyData := .int 10000
def v_LAST_DAY : PyData := .int 1000000
def sp__law_open (e : Ec) : PSpec := fun as Qr Qe => ∃ ns : List Int, as = [.fz (ns.map PyData.int)] ∧ ns.length ≤ 63 ∧ ∀ cs : List Int, cs ≠ [] → Qr (.own [.int 0, .int 0, .list (cs.map PyData.int)])
def sp__law_mixed (e : Ec) : PSpec := fun as Qr Qe => ∃ c t : Int, as = [.v (.int c), .v (.int t)] ∧ ∀ r : Int, Qr (.v (.int r))
def sp__law_draw (e : Ec) : PSpec := fun as Qr Qe => ∃ b : Int, as = [.src, .v (.int b)] ∧ 0 < b ∧ Wd b ∧ ∀ r : Int, 0 ≤ r → r < b → Qr (.v (.int r))

def sp__law_wide (e : Ec) : PSpec := fun as Qr Qe => ∃ b : Int, as = [.src, .v (.int b)] ∧ 0 < b ∧ ∀ r : Int, 0 ≤ r → r < b → Qr (.v (.int r))

def nmOf : Ek → Str
  | .O => "OutOfRange"
  | .M => "Malformed"
  | .N => "NotThere"
  | .R => "Refused"
  | .T => "TooMuch"
def spX__law_told (e : Ec) (a : Addr) (cls : Value) : PSpec := fun as Qr Qe => ∃ k : Ek, as = [.exc a cls] ∧ cls = .ref (e.at k) ∧ Qr (.v (.str (nmOf k)))

def isFr : PyData → Bool
  | .tuple [.int p, .int w] => decide (-1000000000000000000000000000000000000000000000000000000000000 ≤ p) && decide (p ≤ 1000000000000000000000000000000000000000000000000000000000000) && (decide (1 ≤ w) && decide (w ≤ 1000000000000000000000000000000000000000000000000000000000000)) && gc p w == 1
  | _ => false
def isEq (d : PyData) (r : Rat) : Bool := match d with
  | .tuple [.int p, .int w] => p == r.num && w == (r.den : Int)
  | _ => false
def sp_is_fraction (e : Ec) : PSpec := fun as Qr Qe => ∃ d, as = [.v d] ∧ Qr (.v (.bool (isFr d)))
def sp_lowest (e : Ec) : PSpec := fun as Qr Qe => ∃ p w, as = [.v (.int p), .v (.int w)] ∧ w ≠ 0 ∧ Wd p ∧ Wd w ∧ Qr (.v (rt (Rat.divInt p w)))
def sp_made (e : Ec) : PSpec := fun as Qr Qe => ∃ p w, as = [.v (.int p), .v (.int w)] ∧ Wd p ∧ Wd w ∧ (w = 0 → Qe (.ref e.OutOfRange)) ∧ (w ≠ 0 → Qr (.v (rt (Rat.divInt p w))))
def sp_plus (e : Ec) : PSpec := fun as Qr Qe => ∃ r s, as = [.v (rt r), .v (rt s)] ∧ Z 4000 r ∧ Z 4000 s ∧ Qr (.v (rt (r + s)))
def sp_minus (e : Ec) : PSpec := fun as Qr Qe => ∃ r s, as = [.v (rt r), .v (rt s)] ∧ Z 4000 r ∧ Z 4000 s ∧ Qr (.v (rt (r - s)))
def sp_times (e : Ec) : PSpec := fun as Qr Qe => ∃ r s, as = [.v (rt r), .v (rt s)] ∧ Z 4000 r ∧ Z 4000 s ∧ Qr (.v (rt (r * s)))
def sp_through (e : Ec) : PSpec := fun as Qr Qe => ∃ r s, as = [.v (rt r), .v (rt s)] ∧ Z 4000 r ∧ Z 4000 s ∧ (s = 0 → Qe (.ref e.OutOfRange)) ∧ (s ≠ 0 → Qr (.v (rt (r / s))))
def sp_less (e : Ec) : PSpec := fun as Qr Qe => ∃ r s, as = [.v (rt r), .v (rt s)] ∧ Z 4000 r ∧ Z 4000 s ∧ Qr (.v (.bool (decide (r < s))))
def sp__law_is (e : Ec) : PSpec := fun as Qr Qe => ∃ d r, as = [.v d, .v (rt r)] ∧ Qr (.v (.bool (isEq d r)))

def sp__law_lowest (e : Ec) : PSpec := fun as Qr Qe => ∃ p w, as = [.v (.int p), .v (.int w)] ∧ 0 < w ∧ 0 ≤ p ∧ p.natAbs < 2 ^ 1000 ∧ w.natAbs < 2 ^ 850 ∧ Qr (.v (rt (Rat.divInt p w)))
/-- a whole number between the two -/
def isNum (d : PyData) (lo hi : Int) : Bool := match d with
  | .int i => decide (lo ≤ i) && decide (i ≤ hi)
  | _ => false
def isRate (d : PyData) : Bool := isFr d && match d with
  | .tuple [.int p, .int w] => decide (0 ≤ p) && decide (p ≤ w) && decide (w ≤ 10000)
  | _ => false
def isPair : PyData → Bool
  | .tuple [x, r] => isNum x 0 1000000 && isRate r
  | _ => false
def fst : PyData → Int
  | .tuple (.int d :: _) => d
  | _ => 0
def incr (ds : List PyData) : Bool := (List.range (ds.length - 1)).all fun k => decide (fst (ds.getD k .none) < fst (ds.getD (k + 1) .none))
def isRates : PyData → Bool
  | .tuple ds => decide (1 ≤ ds.length) && decide (ds.length ≤ 20) && ds.all isPair && fst (ds.getD 0 .none) == 0 && incr ds
  | _ => false
def rowD (p : Int × Rat) : PyData := .tuple [.int p.1, rt p.2]
def rsD (l : RS) : PyData := .tuple (l.map rowD)
def okRow (p : Int × Rat) : Prop := 0 ≤ p.1 ∧ p.1 ≤ 1000000 ∧ 0 ≤ p.2.num ∧ p.2.num ≤ p.2.den ∧ p.2.den ≤ 10000
structure Rg (l : RS) : Prop where
  hd : ∃ r t, l = (0, r) :: t
  up : Up l
  len : l.length ≤ 20
  ok : ∀ p ∈ l, okRow p
def sp_is_number (e : Ec) : PSpec := fun as Qr Qe => ∃ d lo hi, as = [.v d, .v (.int lo), .v (.int hi)] ∧ Qr (.v (.bool (isNum d lo hi)))
def sp_is_day (e : Ec) : PSpec := fun as Qr Qe => ∃ d, as = [.v d] ∧ Qr (.v (.bool (isNum d 0 1000000)))
def sp_is_rate (e : Ec) : PSpec := fun as Qr Qe => ∃ d, as = [.v d] ∧ Qr (.v (.bool (isRate d)))
def sp_is_rates (e : Ec) : PSpec := fun as Qr Qe => ∃ d, as = [.v d] ∧ Qr (.v (.bool (isRates d)))
def sp_interest (e : Ec) : PSpec := fun as Qr Qe => ∃ P l f b, as = [.v (rt P), .v (rsD l), .v (.int f), .v (.int b)] ∧ Z 1000 P ∧ (∀ p ∈ l, okRow p) ∧ l.length ≤ 21 ∧ 0 ≤ f ∧ f ≤ 1000001 ∧ 0 ≤ b ∧ b ≤ 1000001 ∧
  (b < f → Qe (.ref e.Refused)) ∧ (f ≤ b → Qr (.v (rt (P * Px l f b * Rat.divInt 1 365))))
def sp__law_rates (e : Ec) : PSpec := fun as Qr Qe => as = [.src] ∧ ∀ l, Rg l → Qr (.v (rsD l))
def sp__law_rate (e : Ec) : PSpec := fun as Qr Qe => ∃ l x, as = [.v (rsD l), .v (.int x)] ∧ Rg l ∧ 0 ≤ x ∧ Qr (.v (rt (rho l x)))
def sp__law_up_to (e : Ec) : PSpec := fun as Qr Qe => ∃ l x, as = [.v (rsD l), .v (.int x)] ∧ Rg l ∧ 0 ≤ x ∧ x ≤ 1000001 ∧ ∀ p w : Int, 0 < w → w.natAbs < 2 ^ 300 → 0 ≤ p → p.natAbs < 2 ^ 350 → (p : Rat) = Ux l x * w → Qr (.v (.tuple [.int p, .int w]))
def sp__law_short (e : Ec) : PSpec := fun as Qr Qe => ∃ l f b, as = [.v (rsD l), .v (.int f), .v (.int b)] ∧ Rg l ∧ 0 ≤ f ∧ f ≤ b ∧ b ≤ 1000001 ∧ b - f ≤ 130 ∧ ((Ux l b - Ux l f).num.natAbs < 2 ^ 300 → (Ux l b - Ux l f).den < 2 ^ 280 → 0 ≤ (Ux l b - Ux l f).num → Qr (.v (rt (Ux l b - Ux l f))))
def okP (P : Rat) : Prop := 0 ≤ P.num ∧ P.num.natAbs ≤ 10 ^ 41 ∧ P.den ≤ 10 ^ 31
def sp__law_due (e : Ec) : PSpec := fun as Qr Qe => ∃ P l f b, as = [.v (rt P), .v (rsD l), .v (.int f), .v (.int b)] ∧ okP P ∧ Rg l ∧ 0 ≤ f ∧ f ≤ b ∧ b ≤ 1000001 ∧ Qr (.v (rt (P * (Ux l b - Ux l f) / 365)))
def sp__law_asked (e : Ec) : PSpec := fun as Qr Qe => ∃ P l f b, as = [.v (rt P), .v (rsD l), .v (.int f), .v (.int b)] ∧ okP P ∧ Rg l ∧ 0 ≤ f ∧ f ≤ 1000001 ∧ 0 ≤ b ∧ b ≤ 1000001 ∧ Qr (.v (.bool true))
def sp__law_wrong (e : Ec) : PSpec := fun as Qr Qe => ∃ l, as = [.v (rsD l)] ∧ Rg l ∧ Qr (.v (.bool true))
end K48

set_option Elab.async false
set_option linter.all false
set_option maxRecDepth 100000
/-! The readings of law_k48. -/
namespace K48
open PySem PD
def rd_is_number (K : PySem.W.Frag) (e : Ec) : PTS :=
  (qRet (pER (pAndV (pIsi "int" (pName 0)) (pAndV (pNotV (pIsi "bool" (pName 0))) (pChain gLe gLe (pName 1) (pName 0) (pName 2))))))
def rd_is_day (K : PySem.W.Frag) (e : Ec) : PTS :=
  (qRet (pCall (sp_is_number e) (pcCons (pName 0) (pcCons (pC (.int 0)) (pcCons (pC v_LAST_DAY) pcNil)))))
def rd_is_fraction (K : PySem.W.Frag) (e : Ec) : PTS :=
  (qSeq (qIf (pOr (pNot (pTru (pIsi "tuple" (pName 0)))) (pTest (pBin gNe (pCB gLen (pCons (pName 0) pNil)) (pC (.int 2))))) (qRet (pER (pC (.bool false)))) qNx)
  (qSeq (qAsg (pName 0) (gtTup 2 (gtCons (gtName 1) (gtCons (gtName 2) gtNil))))
  (qSeq (qFor (piSeq (pName 0)) (gtName 3) (qIf (pOr (pNot (pTru (pIsi "int" (pName 3)))) (pTru (pIsi "bool" (pName 3)))) (qRet (pER (pC (.bool false)))) qNx))
  (qRet (pER (pAndV (pChain gLe gLe (pNeg (pC v_LIMIT)) (pName 1) (pC v_LIMIT)) (pAndV (pChain gLe gLe (pC (.int 1)) (pName 2) (pC v_LIMIT)) (pBin gEq (pCB gGcd (pCons (pName 1) (pCons (pName 2) pNil))) (pC (.int 1))))))))))
def rd_lowest (K : PySem.W.Frag) (e : Ec) : PTS :=
  (qSeq (qSet 2 (pER (pCB gGcd (pCons (pName 0) (pCons (pName 1) pNil)))))
  (qSeq (qIf (pTest (pBin gLt (pName 1) (pC (.int 0)))) (qSet 2 (pER (pNeg (pName 2)))) qNx)
  (qRet (pER (pTup (pCons (pBin gDivZ (pName 0) (pName 2)) (pCons (pBin gDivZ (pName 1) (pName 2)) pNil)))))))
def rd_plus (K : PySem.W.Frag) (e : Ec) : PTS :=
  (qRet (pCall (sp_lowest e) (pcCons (pBin gAdd (pBin gMul (pIxN 0 (pC (.int 0))) (pIxN 1 (pC (.int 1)))) (pBin gMul (pIxN 1 (pC (.int 0))) (pIxN 0 (pC (.int 1))))) (pcCons (pBin gMul (pIxN 0 (pC (.int 1))) (pIxN 1 (pC (.int 1)))) pcNil))))
def rd_times (K : PySem.W.Frag) (e : Ec) : PTS :=
  (qRet (pCall (sp_lowest e) (pcCons (pBin gMul (pIxN 0 (pC (.int 0))) (pIxN 1 (pC (.int 0)))) (pcCons (pBin gMul (pIxN 0 (pC (.int 1))) (pIxN 1 (pC (.int 1)))) pcNil))))
def rd_is_rate (K : PySem.W.Frag) (e : Ec) : PTS :=
  (qRet (pER (pAndV (pRE (pCall (sp_is_fraction e) (pcCons (pName 0) pcNil))) (pChain3 gLe gLe gLe (pC (.int 0)) (pIxN 0 (pC (.int 0))) (pIxN 0 (pC (.int 1))) (pC v_MOST_WHOLE)))))
def rd_is_rates (K : PySem.W.Frag) (e : Ec) : PTS :=
  (qSeq (qIf (pOr (pNot (pTru (pIsi "tuple" (pName 0)))) (pNot (pTest (pChain gLe gLe (pC (.int 1)) (pCB gLen (pCons (pName 0) pNil)) (pC (.int 20)))))) (qRet (pER (pC (.bool false)))) qNx)
  (qSeq (qFor (piSeq (pName 0)) (gtName 1) (qIf (pOr (pNot (pTru (pIsi "tuple" (pName 1)))) (pOr (pTest (pBin gNe (pCB gLen (pCons (pName 1) pNil)) (pC (.int 2)))) (pOr (pNot (pTru (pRE (pCall (sp_is_day e) (pcCons (pIxN 1 (pC (.int 0))) pcNil))))) (pNot (pTru (pRE (pCall (sp_is_rate e) (pcCons (pIxN 1 (pC (.int 1))) pcNil)))))))) (qRet (pER (pC (.bool false)))) qNx))
  (qRet (pER (pAndV (pBin gEq (pBin gIx (pIxN 0 (pC (.int 0))) (pC (.int 0))) (pC (.int 0))) (pGx (fun d => d = .bool true) fAll [] [2] (piRng1 (pCons (pBin gSub (pCB gLen (pCons (pName 0) pNil)) (pC (.int 1))) pNil)) (gtName 2) ptYes (pBin gLt (pBin gIx (pIxN 0 (pName 2)) (pC (.int 0))) (pBin gIx (pIxN 0 (pBin gAdd (pName 2) (pC (.int 1)))) (pC (.int 0))))))))))
def rd_interest (K : PySem.W.Frag) (e : Ec) : PTS :=
  (qSeq (qIf (pTest (pBin gLt (pName 3) (pName 2))) (qRaise e.Refused) qNx)
  (qSeq (qSet 4 (pER (pC v_NOUGHT)))
  (qSeq (qFor (piRng1 (pCons (pCB gLen (pCons (pName 1) pNil)) pNil)) (gtName 5) (qSeq (qAsg (pIxN 1 (pName 5)) (gtTup 2 (gtCons (gtName 6) (gtCons (gtName 7) gtNil))))
  (qSeq (qSet 8 (pER (pIf (pTest (pBin gLt (pBin gAdd (pName 5) (pC (.int 1))) (pCB gLen (pCons (pName 1) pNil)))) (pBin gIx (pIxN 1 (pBin gAdd (pName 5) (pC (.int 1)))) (pC (.int 0))) (pName 3))))
  (qSeq (qSet 9 (pER (pBin gSub (pCB (gI2 fun i j => .int (if j < i then j else i)) (pCons (pName 8) (pCons (pName 3) pNil))) (pCB (gI2 fun i j => .int (if j > i then j else i)) (pCons (pName 6) (pCons (pName 2) pNil))))))
  (qIf (pTest (pBin gGt (pName 9) (pC (.int 0)))) (qSet 4 (pCall (sp_plus e) (pcCons (pName 4) (pcCons (pRE (pCall (sp_times e) (pcCons (pName 7) (pcCons (pTup (pCons (pName 9) (pCons (pC (.int 1)) pNil))) pcNil)))) pcNil)))) qNx)))))
  (qRet (pCall (sp_times e) (pcCons (pRE (pCall (sp_times e) (pcCons (pName 0) (pcCons (pName 4) pcNil)))) (pcCons (pTup (pCons (pC (.int 1)) (pCons (pC v_YEAR) pNil))) pcNil)))))))
def rd__law_open (K : PySem.W.Frag) (e : Ec) : PTS :=
  (qSeq (qSet 1 (pLc [] [2] (piSeq (pSliceFz 0 poNone (poSome (pC (.int 63))))) (gtName 2) ptYes (pCB (gI1 fun i => .int (if i < 0 then -i else i)) (pCons (pCB gInt (pCons (pName 2) pNil)) pNil))))
  (qRet (pLst (pCons (pC (.int 0)) (pCons (pC (.int 0)) (pCons (pBin gAdd (pName 1) (pRE (pLst (pCons (pC (.int 0)) pNil)))) pNil))))))
def rd__law_mixed (K : PySem.W.Frag) (e : Ec) : PTS :=
  (qSeq (qSet 2 (pER (pBin gMod (pBin gAdd (pBin gAdd (pBin gMul (pBin gMod (pName 0) (pBin gSub (pBin gPow (pC (.int 2)) (pC (.int 61))) (pC (.int 1)))) (pC (.int 6364136223846793005))) (pBin gMul (pName 1) (pC (.int 1442695040888963407)))) (pC (.int 97))) (pBin gPow (pC (.int 2)) (pC (.int 61))))))
  (qSeq (qSet 2 (pER (pBin gMod (pBin gMul (pBin gXor (pName 2) (pBin gShr (pName 2) (pC (.int 29)))) (pC (.int 3935559000370003845))) (pBin gPow (pC (.int 2)) (pC (.int 61))))))
  (qRet (pER (pBin gMod (pBin gMul (pBin gXor (pName 2) (pBin gShr (pName 2) (pC (.int 31)))) (pC (.int 2862933555777941757))) (pBin gPow (pC (.int 2)) (pC (.int 61))))))))
def rd__law_draw (K : PySem.W.Frag) (e : Ec) : PTS :=
  (qSeq (qOpn 0 2 3 4)
  (qSeq (qIf (pTest (pBin gLt (pName 3) (pName 1))) (qSeq (qSet 5 (pER (pIxN 4 (pBin gMod (pName 2) (pCB gLen (pCons (pName 4) pNil))))))
  (qSeq (qSet 3 (pER (pIf (pAnd (pTest (pBin gLt (pName 2) (pCB gLen (pCons (pName 4) pNil)))) (pTest (pBin gGe (pName 5) (pBin gPow (pC (.int 10)) (pC (.int 18)))))) (pName 5) (pRE (pCall (sp__law_mixed e) (pcCons (pName 5) (pcCons (pName 2) pcNil)))))))
  (qSet 2 (pER (pBin gAdd (pName 2) (pC (.int 1))))))) qNx)
  (qSeq (qPut 0 (pName 2) (pC (.int 0)))
  (qSeq (qPut 0 (pBin gDiv (pName 3) (pName 1)) (pC (.int 1)))
  (qRet (pER (pBin gMod (pName 3) (pName 1))))))))
def rd__law_wide (K : PySem.W.Frag) (e : Ec) : PTS :=
  (qSeq (qSet 2 (pER (pC (.int 0))))
  (qSeq (qFor (piRng1 (pCons (pC (.int 4)) pNil)) (gtName 3) (qSet 2 (pER (pBin gAdd (pBin gMul (pName 2) (pBin gPow (pC (.int 10)) (pC (.int 18)))) (pRE (pCall (sp__law_draw e) (pcSrc 0 (pcCons (pBin gPow (pC (.int 10)) (pC (.int 18))) pcNil))))))))
  (qRet (pER (pBin gMod (pName 2) (pName 1))))))
def rdX__law_told (K : PySem.W.Frag) (e : Ec) (a : Addr) (cls : Value) : PTS :=
  (qSeq (qSet 1 (pLst (pCons (pTup (pCons (pC (.str "OutOfRange")) (pCons (pIsE K 0 a e.OutOfRange cls) pNil))) (pCons (pTup (pCons (pC (.str "Malformed")) (pCons (pIsE K 0 a e.Malformed cls) pNil))) (pCons (pTup (pCons (pC (.str "NotThere")) (pCons (pIsE K 0 a e.NotThere cls) pNil))) (pCons (pTup (pCons (pC (.str "Refused")) (pCons (pIsE K 0 a e.Refused cls) pNil))) (pCons (pTup (pCons (pC (.str "TooMuch")) (pCons (pIsE K 0 a e.TooMuch cls) pNil))) pNil)))))))
  (qSeq (qSet 2 (pLc [] [3, 4] (piLst (pName 1)) (gtTupX 2 (gtCons (gtName 3) (gtCons (gtName 4) gtNil))) (pTru (pName 4)) (pName 3)))
  (qSeq (qIf (pOr (pTest (pBin gNe (pLenN 2) (pC (.int 1)))) (pNot (pTru (pIsB K 0 a "ValueError" cls)))) (qRet (pER (pC (.str "several")))) qNx)
  (qRet (pER (pIxN 2 (pC (.int 0))))))))
def rd__law_lowest (K : PySem.W.Frag) (e : Ec) : PTS :=
  (qSeq (qSet 2 (pER (pName 1)))
  (qSeq (qSet 3 (pER (pName 0)))
  (qSeq (qFor (piRng1 (pCons (pC (.int 2000)) pNil)) (gtName 4) (qSeq (qIf (pTest (pBin gEq (pName 3) (pC (.int 0)))) qBk qNx)
  (qSeq (qSet 5 (pER (pBin gMod (pName 2) (pName 3))))
  (qSeq (qSet 2 (pER (pName 3)))
  (qSet 3 (pER (pName 5)))))))
  (qRet (pER (pTup (pCons (pBin gDiv (pName 0) (pName 2)) (pCons (pBin gDiv (pName 1) (pName 2)) pNil))))))))
def rd__law_rates (K : PySem.W.Frag) (e : Ec) : PTS :=
  (qSeq (qSet 1 (pLst (pCons (pC (.int 0)) pNil)))
  (qSeq (qSet 2 (pCall (sp__law_draw e) (pcSrc 0 (pcCons (pC (.int 3)) pcNil))))
  (qSeq (qFor (piRng1 (pCons (pRE (pCall (sp__law_draw e) (pcSrc 0 (pcCons (pBin gIx (pRE (pLst (pCons (pC (.int 4)) (pCons (pC (.int 20)) (pCons (pC (.int 20)) pNil))))) (pName 2)) pcNil)))) pNil)) (gtName 3) (qSeq (qSet 4 (pER (pBin gAdd (pC (.int 1)) (pRE (pCall (sp__law_draw e) (pcSrc 0 (pcCons (pBin gIx (pRE (pLst (pCons (pC (.int 9)) (pCons (pC (.int 150)) (pCons (pC (.int 1000000)) pNil))))) (pName 2)) pcNil)))))))
  (qIf (pTest (pInN true 1 (pName 4))) (qDrop (pER (pMt 1 gAppend (pCons (pName 4) pNil)))) qNx)))
  (qSeq (qSet 5 (pLst pNil))
  (qSeq (qFor (piSeq (pRE (pSortI (pName 1)))) (gtName 4) (qSeq (qSet 6 (pER (pBin gAdd (pC (.int 1)) (pRE (pCall (sp__law_draw e) (pcSrc 0 (pcCons (pBin gIx (pRE (pLst (pCons (pC (.int 4)) (pCons (pC (.int 100)) (pCons (pC (.int 10000)) pNil))))) (pRE (pCall (sp__law_draw e) (pcSrc 0 (pcCons (pC (.int 3)) pcNil))))) pcNil)))))))
  (qDrop (pER (pMt 5 gAppend (pCons (pTup (pCons (pName 4) (pCons (pRE (pCall (sp__law_lowest e) (pcCons (pRE (pCall (sp__law_draw e) (pcSrc 0 (pcCons (pBin gAdd (pName 6) (pC (.int 1))) pcNil)))) (pcCons (pName 6) pcNil)))) pNil))) pNil))))))
  (qRet (pER (pTupN 5))))))))
def rd__law_rate (K : PySem.W.Frag) (e : Ec) : PTS :=
  (qRet (pER (pBin gIx (pRE (pLc [] [2, 3] (piSeq (pName 0)) (gtTup 2 (gtCons (gtName 2) (gtCons (gtName 3) gtNil))) (pTest (pBin gLe (pName 2) (pName 1))) (pName 3))) (pNeg (pC (.int 1))))))
def rd__law_up_to (K : PySem.W.Frag) (e : Ec) : PTS :=
  (qSeq (qSet 2 (pER (pC (.int 0))))
  (qSeq (qSet 3 (pER (pC (.int 1))))
  (qSeq (qFor (piRng1 (pCons (pCB gLen (pCons (pName 0) pNil)) pNil)) (gtName 4) (qSeq (qAsg (pIxN 0 (pName 4)) (gtTup 2 (gtCons (gtName 5) (gtCons (gtName 6) gtNil))))
  (qSeq (qSet 7 (pER (pCB (gI2 fun i j => .int (if j < i then j else i)) (pCons (pName 1) (pCons (pIf (pTest (pBin gLt (pBin gAdd (pName 4) (pC (.int 1))) (pCB gLen (pCons (pName 0) pNil)))) (pBin gIx (pIxN 0 (pBin gAdd (pName 4) (pC (.int 1)))) (pC (.int 0))) (pName 1)) pNil)))))
  (qSeq (qSet 8 (pER (pCB (gI2 fun i j => .int (if j > i then j else i)) (pCons (pC (.int 0)) (pCons (pBin gSub (pName 7) (pName 5)) pNil)))))
  (qSeq (qSet 2 (pER (pBin gAdd (pBin gMul (pName 2) (pIxN 6 (pC (.int 1)))) (pBin gMul (pBin gMul (pIxN 6 (pC (.int 0))) (pName 8)) (pName 3)))))
  (qSet 3 (pER (pBin gMul (pName 3) (pIxN 6 (pC (.int 1)))))))))))
  (qRet (pER (pTup (pCons (pName 2) (pCons (pName 3) pNil))))))))
def rd__law_short (K : PySem.W.Frag) (e : Ec) : PTS :=
  (qSeq (qSet 3 (pER (pC (.int 0))))
  (qSeq (qSet 4 (pER (pC (.int 1))))
  (qSeq (qFor (piRng2 (pCons (pName 1) (pCons (pName 2) pNil))) (gtName 5) (qSeq (qSet 6 (pCall (sp__law_rate e) (pcCons (pName 0) (pcCons (pName 5) pcNil))))
  (qAsg (pRE (pCall (sp__law_lowest e) (pcCons (pBin gAdd (pBin gMul (pName 3) (pIxN 6 (pC (.int 1)))) (pBin gMul (pIxN 6 (pC (.int 0))) (pName 4))) (pcCons (pBin gMul (pName 4) (pIxN 6 (pC (.int 1)))) pcNil)))) (gtTup 2 (gtCons (gtName 3) (gtCons (gtName 4) gtNil))))))
  (qRet (pER (pTup (pCons (pName 3) (pCons (pName 4) pNil))))))))
def rd__law_due (K : PySem.W.Frag) (e : Ec) : PTS :=
  (qSeq (qIf (pTest (pBin gLe (pBin gSub (pName 3) (pName 2)) (pC (.int 130)))) (qAsg (pRE (pCall (sp__law_short e) (pcCons (pName 1) (pcCons (pName 2) (pcCons (pName 3) pcNil))))) (gtTup 2 (gtCons (gtName 4) (gtCons (gtName 5) gtNil)))) (qSeq (qSet 6 (pCall (sp__law_up_to e) (pcCons (pName 1) (pcCons (pName 2) pcNil))))
  (qSeq (qSet 7 (pCall (sp__law_up_to e) (pcCons (pName 1) (pcCons (pName 3) pcNil))))
  (qSeq (qSet 4 (pER (pBin gSub (pBin gMul (pIxN 7 (pC (.int 0))) (pIxN 6 (pC (.int 1)))) (pBin gMul (pIxN 6 (pC (.int 0))) (pIxN 7 (pC (.int 1)))))))
  (qSet 5 (pER (pBin gMul (pIxN 6 (pC (.int 1))) (pIxN 7 (pC (.int 1))))))))))
  (qRet (pCall (sp__law_lowest e) (pcCons (pBin gMul (pIxN 0 (pC (.int 0))) (pName 4)) (pcCons (pBin gMul (pBin gMul (pIxN 0 (pC (.int 1))) (pName 5)) (pC (.int 365))) pcNil)))))
def rd__law_is (K : PySem.W.Frag) (e : Ec) : PTS :=
  (qSeq (qIf (pOr (pNot (pTru (pIsi "tuple" (pName 0)))) (pTest (pBin gNe (pCB gLen (pCons (pName 0) pNil)) (pC (.int 2))))) (qRet (pER (pC (.bool false)))) qNx)
  (qSeq (qFor (piSeq (pName 0)) (gtName 2) (qIf (pOr (pNot (pTru (pIsi "int" (pName 2)))) (pTru (pIsi "bool" (pName 2)))) (qRet (pER (pC (.bool false)))) qNx))
  (qRet (pER (pAndV (pBin gEq (pIxN 0 (pC (.int 0))) (pIxN 1 (pC (.int 0)))) (pBin gEq (pIxN 0 (pC (.int 1))) (pIxN 1 (pC (.int 1)))))))))
def rd__law_asked (K : PySem.W.Frag) (e : Ec) : PTS :=
  (qSeq (qTry K (.ref e.DocketError) 5 (qSet 4 (pCall (sp_interest e) (pcCons (pName 0) (pcCons (pName 1) (pcCons (pName 2) (pcCons (pName 3) pcNil)))))) (fun a cls => (qRet (pER (pAndV (pBin gLt (pName 3) (pName 2)) (pBin gEq (pRE (pCall (spX__law_told e a cls) (pcExc 5 pcNil))) (pC (.str "Refused"))))))))
  (qRet (pER (pAndV (pBin gGe (pName 3) (pName 2)) (pRE (pCall (sp__law_is e) (pcCons (pName 4) (pcCons (pRE (pCall (sp__law_due e) (pcCons (pName 0) (pcCons (pName 1) (pcCons (pName 2) (pcCons (pName 3) pcNil)))))) pcNil))))))))
def rd__law_wrong (K : PySem.W.Frag) (e : Ec) : PTS :=
  (qSeq (qAsg (pIxN 0 (pNeg (pC (.int 1)))) (gtTup 2 (gtCons (gtName 1) (gtCons (gtName 2) gtNil))))
  (qSeq (qSet 3 (pER (pSlice (pName 0) poNone (poSome (pNeg (pC (.int 1)))))))
  (qSeq (qSet 4 (pLst (pCons (pRE (pLst1 (pName 0))) (pCons (pTup pNil) (pCons (pC .none) (pCons (pBin gAdd (pName 0) (pTup (pCons (pIxN 0 (pNeg (pC (.int 1)))) pNil))) (pCons (pTup (pCons (pTup (pCons (pC (.int 1)) (pCons (pName 2) pNil))) pNil)) (pCons (pBin gAdd (pName 3) (pTup (pCons (pTup (pCons (pName 1) (pCons (pTup (pCons (pC (.int 2)) (pCons (pC (.int 4)) pNil))) pNil))) pNil))) (pCons (pBin gAdd (pName 3) (pTup (pCons (pTup (pCons (pName 1) (pCons (pTup (pCons (pC (.int 3)) (pCons (pC (.int 2)) pNil))) pNil))) pNil))) (pCons (pBin gAdd (pName 3) (pTup (pCons (pTup (pCons (pName 1) (pCons (pTup (pCons (pC (.int 1)) (pCons (pC (.int 10001)) pNil))) pNil))) pNil))) (pCons (pBin gAdd (pName 3) (pTup (pCons (pTup (pCons (pName 1) (pCons (pTup (pCons (pNeg (pC (.int 1))) (pCons (pC (.int 2)) pNil))) pNil))) pNil))) (pCons (pBin gAdd (pName 3) (pTup (pCons (pRE (pLst (pCons (pName 1) (pCons (pName 2) pNil)))) pNil))) (pCons (pBin gAdd (pName 3) (pTup (pCons (pTup (pCons (pName 1) (pCons (pName 2) (pCons (pC (.int 0)) pNil)))) pNil))) (pCons (pTup (pCons (pTup (pCons (pC (.bool true)) (pCons (pName 2) pNil))) pNil)) (pCons (pBin gAdd (pName 0) (pTup (pCons (pTup (pCons (pC (.int 1000001)) (pCons (pName 2) pNil))) pNil))) (pCons (pBin gAdd (pName 3) (pTup (pCons (pTup (pCons (pName 1) (pCons (pC (.int 0)) pNil))) pNil))) (pCons (pBin gAdd (pName 3) (pTup (pCons (pTup (pCons (pName 1) (pCons (pRE (pLst (pCons (pC (.int 0)) (pCons (pC (.int 1)) pNil)))) pNil))) pNil))) (pCons (pTup (pCons (pC (.int 0)) (pCons (pName 2) pNil))) pNil))))))))))))))))))
  (qSeq (qFor (piSeq (pName 4)) (gtName 5) (qIf (pTest (pBin gIsNot (pRE (pCall (sp_is_rates e) (pcCons (pName 5) pcNil))) (pC (.bool false)))) (qRet (pER (pC (.bool false)))) qNx))
  (qSeq (qSet 6 (pER (pCB gTupC (pCons (pRE (pLc [] [7] (piRng1 (pCons (pC (.int 21)) pNil)) (gtName 7) ptYes (pTup (pCons (pName 7) (pCons (pName 2) pNil))))) pNil))))
  (qRet (pER (pAndV (pBin gIs (pRE (pCall (sp_is_rates e) (pcCons (pSlice (pName 6) poNone (poSome (pC (.int 20)))) pcNil))) (pC (.bool true))) (pBin gIs (pRE (pCall (sp_is_rates e) (pcCons (pName 6) pcNil))) (pC (.bool false)))))))))))
def rd_law (K : PySem.W.Frag) (e : Ec) : PTS :=
  (qSeq (qSetOpn 1 (pCall (sp__law_open e) (pcFz 0 pcNil)))
  (qSeq (qFor (piRng1 (pCons (pBin gAdd (pC (.int 1)) (pRE (pCall (sp__law_draw e) (pcSrc 1 (pcCons (pC (.int 2)) pcNil))))) pNil)) (gtName 2) (qSeq (qSet 3 (pCall (sp__law_rates e) (pcSrc 1 pcNil)))
  (qSeq (qIf (pOr (pTest (pBin gIsNot (pRE (pCall (sp_is_rates e) (pcCons (pName 3) pcNil))) (pC (.bool true)))) (pNot (pTru (pRE (pCall (sp__law_wrong e) (pcCons (pName 3) pcNil)))))) (qRet (pER (pC (.bool false)))) qNx)
  (qSeq (qSet 4 (pER (pBin gAdd (pC (.int 1)) (pRE (pCall (sp__law_wide e) (pcSrc 1 (pcCons (pBin gIx (pRE (pLst (pCons (pC (.int 1)) (pCons (pC (.int 50)) (pCons (pBin gPow (pC (.int 10)) (pC (.int 30))) pNil))))) (pRE (pCall (sp__law_draw e) (pcSrc 1 (pcCons (pC (.int 3)) pcNil))))) pcNil)))))))
  (qSeq (qSet 5 (pCall (sp__law_lowest e) (pcCons (pRE (pCall (sp__law_wide e) (pcSrc 1 (pcCons (pBin gIx (pRE (pLst (pCons (pC (.int 2)) (pCons (pBin gPow (pC (.int 10)) (pC (.int 12))) (pCons (pBin gPow (pC (.int 10)) (pC (.int 40))) pNil))))) (pRE (pCall (sp__law_draw e) (pcSrc 1 (pcCons (pC (.int 3)) pcNil))))) pcNil)))) (pcCons (pName 4) pcNil))))
  (qSeq (qSet 6 (pSortI (pRE (pLst (pCons (pRE (pCall (sp__law_draw e) (pcSrc 1 (pcCons (pC (.int 1000001)) pcNil)))) (pCons (pRE (pCall (sp__law_draw e) (pcSrc 1 (pcCons (pC (.int 1000001)) pcNil)))) (pCons (pBin gIx (pIxN 3 (pRE (pCall (sp__law_draw e) (pcSrc 1 (pcCons (pCB gLen (pCons (pName 3) pNil)) pcNil))))) (pC (.int 0))) pNil)))))))
  (qSeq (qSet 7 (pER (pCB (gI2 fun i j => .int (if j < i then j else i)) (pCons (pBin gSub (pC (.int 1000000)) (pC (.int 120))) (pCons (pRE (pCall (sp__law_draw e) (pcSrc 1 (pcCons (pC (.int 160)) pcNil)))) pNil)))))
  (qSeq (qSet 8 (pLst (pCons (pTup (pCons (pIxN 6 (pC (.int 0))) (pCons (pIxN 6 (pC (.int 1))) pNil))) (pCons (pTup (pCons (pIxN 6 (pC (.int 1))) (pCons (pIxN 6 (pC (.int 2))) pNil))) (pCons (pTup (pCons (pIxN 6 (pC (.int 0))) (pCons (pIxN 6 (pC (.int 2))) pNil))) (pCons (pTup (pCons (pName 7) (pCons (pBin gAdd (pName 7) (pRE (pCall (sp__law_draw e) (pcSrc 1 (pcCons (pC (.int 120)) pcNil))))) pNil))) (pCons (pTup (pCons (pName 7) (pCons (pName 7) pNil))) (pCons (pTup (pCons (pIxN 6 (pC (.int 2))) (pCons (pIxN 6 (pC (.int 0))) pNil))) (pCons (pTup (pCons (pBin gAdd (pName 7) (pC (.int 1))) (pCons (pName 7) pNil))) (pCons (pTup (pCons (pC (.int 0)) (pCons (pC (.int 1000000)) pNil))) pNil))))))))))
  (qSeq (qFor (piSeq (pName 8)) (gtTup 2 (gtCons (gtName 9) (gtCons (gtName 10) gtNil))) (qIf (pNot (pTru (pRE (pCall (sp__law_asked e) (pcCons (pName 5) (pcCons (pName 3) (pcCons (pName 9) (pcCons (pName 10) pcNil)))))))) (qRet (pER (pC (.bool false)))) qNx))
  (qSeq (qSet 11 (pCall (sp__law_draw e) (pcSrc 1 (pcCons (pCB gLen (pCons (pName 3) pNil)) pcNil))))
  (qSeq (qSet 12 (pER (pIf (pTest (pBin gLt (pBin gAdd (pName 11) (pC (.int 1))) (pCB gLen (pCons (pName 3) pNil)))) (pBin gIx (pIxN 3 (pBin gAdd (pName 11) (pC (.int 1)))) (pC (.int 0))) (pC (.int 1000001)))))
  (qIf (pAnd (pTest (pBin gLt (pCB gLen (pCons (pName 3) pNil)) (pC (.int 20)))) (pTest (pBin gLt (pBin gAdd (pBin gIx (pIxN 3 (pName 11)) (pC (.int 0))) (pC (.int 1))) (pName 12)))) (qSeq (qSet 13 (pER (pBin gAdd (pBin gAdd (pSlice (pName 3) poNone (poSome (pBin gAdd (pName 11) (pC (.int 1))))) (pTup (pCons (pTup (pCons (pBin gAdd (pBin gIx (pIxN 3 (pName 11)) (pC (.int 0))) (pC (.int 1))) (pCons (pBin gIx (pIxN 3 (pName 11)) (pC (.int 1))) pNil))) pNil))) (pSlice (pName 3) (poSome (pBin gAdd (pName 11) (pC (.int 1)))) poNone))))
  (qSeq (qSet 14 (pER (pCB (gI2 fun i j => .int (if j > i then j else i)) (pCons (pIxN 6 (pC (.int 2))) (pCons (pName 7) pNil)))))
  (qIf (pTest (pBin gNe (pRE (pCall (sp_interest e) (pcCons (pName 5) (pcCons (pName 13) (pcCons (pName 7) (pcCons (pName 14) pcNil)))))) (pRE (pCall (sp_interest e) (pcCons (pName 5) (pcCons (pName 3) (pcCons (pName 7) (pcCons (pName 14) pcNil)))))))) (qRet (pER (pC (.bool false)))) qNx))) qNx))))))))))))
  (qRet (pER (pC (.bool true))))))
end K48

set_option Elab.async false
set_option linter.all false
set_option maxRecDepth 100000
set_option maxHeartbeats 1000000
/-! The walk of law_k48. -/
namespace K48
open PySem PySem.Spec L2 GxR HGx PD HHot
def topS (i : Nat) : Stmt := PySem.Challenge.pw_docketloom_k48_exact_interest.main.body.getD i (.Pass ⟨0, 0, 0, 0⟩)
abbrev s_is_number : Stmt := topS 9
theorem sc_is_number : FnScope ["value", "least", "most"] ["value", "least", "most"] (defScope s_is_number) := ⟨rfl, rfl, rfl, by decide +kernel, rfl, by decide +kernel, by decide +kernel⟩
abbrev s_is_day : Stmt := topS 12
theorem sc_is_day : FnScope ["value"] ["value"] (defScope s_is_day) := ⟨rfl, rfl, rfl, by decide +kernel, rfl, by decide +kernel, by decide +kernel⟩
abbrev s_is_fraction : Stmt := topS 15
theorem sc_is_fraction : FnScope ["value", "part", "whole", "one"] ["value"] (defScope s_is_fraction) := ⟨rfl, rfl, rfl, by decide +kernel, rfl, by decide +kernel, by decide +kernel⟩
abbrev s_lowest : Stmt := topS 16
theorem sc_lowest : FnScope ["part", "whole", "common"] ["part", "whole"] (defScope s_lowest) := ⟨rfl, rfl, rfl, by decide +kernel, rfl, by decide +kernel, by decide +kernel⟩
abbrev s_plus : Stmt := topS 17
theorem sc_plus : FnScope ["one", "other"] ["one", "other"] (defScope s_plus) := ⟨rfl, rfl, rfl, by decide +kernel, rfl, by decide +kernel, by decide +kernel⟩
abbrev s_times : Stmt := topS 18
theorem sc_times : FnScope ["one", "other"] ["one", "other"] (defScope s_times) := ⟨rfl, rfl, rfl, by decide +kernel, rfl, by decide +kernel, by decide +kernel⟩
abbrev s_is_rate : Stmt := topS 21
theorem sc_is_rate : FnScope ["value"] ["value"] (defScope s_is_rate) := ⟨rfl, rfl, rfl, by decide +kernel, rfl, by decide +kernel, by decide +kernel⟩
abbrev s_is_rates : Stmt := topS 25
theorem sc_is_rates : FnScope ["value", "pair", "k"] ["value"] (defScope s_is_rates) := ⟨rfl, rfl, rfl, by decide +kernel, rfl, by decide +kernel, by decide +kernel⟩
abbrev s_interest : Stmt := topS 26
theorem sc_interest : FnScope ["principal", "rates", "first", "behind", "whole", "k", "begin", "rate", "end", "days"] ["principal", "rates", "first", "behind"] (defScope s_interest) := ⟨rfl, rfl, rfl, by decide +kernel, rfl, by decide +kernel, by decide +kernel⟩
abbrev s__law_open : Stmt := topS 28
theorem sc__law_open : FnScope ["script", "cells", "cell"] ["script"] (defScope s__law_open) := ⟨rfl, rfl, rfl, by decide +kernel, rfl, by decide +kernel, by decide +kernel⟩
abbrev s__law_mixed : Stmt := topS 29
theorem sc__law_mixed : FnScope ["cell", "turn", "number"] ["cell", "turn"] (defScope s__law_mixed) := ⟨rfl, rfl, rfl, by decide +kernel, rfl, by decide +kernel, by decide +kernel⟩
abbrev s__law_draw : Stmt := topS 30
theorem sc__law_draw : FnScope ["draws", "size", "turn", "left", "cells", "cell"] ["draws", "size"] (defScope s__law_draw) := ⟨rfl, rfl, rfl, by decide +kernel, rfl, by decide +kernel, by decide +kernel⟩
abbrev s__law_wide : Stmt := topS 31
theorem sc__law_wide : FnScope ["draws", "size", "number", "k"] ["draws", "size"] (defScope s__law_wide) := ⟨rfl, rfl, rfl, by decide +kernel, rfl, by decide +kernel, by decide +kernel⟩
abbrev s__law_told : Stmt := topS 32
theorem sc__law_told : FnScope ["error", "kinds", "names", "name", "true"] ["error"] (defScope s__law_told) := ⟨rfl, rfl, rfl, by decide +kernel, rfl, by decide +kernel, by decide +kernel⟩
abbrev s__law_lowest : Stmt := topS 33
theorem sc__law_lowest : FnScope ["part", "whole", "one", "other", "k", "rest"] ["part", "whole"] (defScope s__law_lowest) := ⟨rfl, rfl, rfl, by decide +kernel, rfl, by decide +kernel, by decide +kernel⟩
abbrev s__law_rates : Stmt := topS 34
theorem sc__law_rates : FnScope ["draws", "days", "near", "k", "day", "rows", "whole"] ["draws"] (defScope s__law_rates) := ⟨rfl, rfl, rfl, by decide +kernel, rfl, by decide +kernel, by decide +kernel⟩
abbrev s__law_rate : Stmt := topS 35
theorem sc__law_rate : FnScope ["rates", "day", "first", "rate"] ["rates", "day"] (defScope s__law_rate) := ⟨rfl, rfl, rfl, by decide +kernel, rfl, by decide +kernel, by decide +kernel⟩
abbrev s__law_up_to : Stmt := topS 36
theorem sc__law_up_to : FnScope ["rates", "day", "part", "whole", "k", "first", "rate", "last", "many"] ["rates", "day"] (defScope s__law_up_to) := ⟨rfl, rfl, rfl, by decide +kernel, rfl, by decide +kernel, by decide +kernel⟩
abbrev s__law_short : Stmt := topS 37
theorem sc__law_short : FnScope ["rates", "first", "behind", "part", "whole", "day", "rate"] ["rates", "first", "behind"] (defScope s__law_short) := ⟨rfl, rfl, rfl, by decide +kernel, rfl, by decide +kernel, by decide +kernel⟩
abbrev s__law_due : Stmt := topS 38
theorem sc__law_due : FnScope ["principal", "rates", "first", "behind", "part", "whole", "one", "other"] ["principal", "rates", "first", "behind"] (defScope s__law_due) := ⟨rfl, rfl, rfl, by decide +kernel, rfl, by decide +kernel, by decide +kernel⟩
abbrev s__law_is : Stmt := topS 39
theorem sc__law_is : FnScope ["value", "due", "one"] ["value", "due"] (defScope s__law_is) := ⟨rfl, rfl, rfl, by decide +kernel, rfl, by decide +kernel, by decide +kernel⟩
abbrev s__law_asked : Stmt := topS 40
theorem sc__law_asked : FnScope ["principal", "rates", "first", "behind", "value", "error"] ["principal", "rates", "first", "behind"] (defScope s__law_asked) := ⟨rfl, rfl, rfl, by decide +kernel, rfl, by decide +kernel, by decide +kernel⟩
abbrev s__law_wrong : Stmt := topS 41
theorem sc__law_wrong : FnScope ["rates", "day", "rate", "first", "wrong", "value", "many", "k"] ["rates"] (defScope s__law_wrong) := ⟨rfl, rfl, rfl, by decide +kernel, rfl, by decide +kernel, by decide +kernel⟩
abbrev s_law : Stmt := topS 42
theorem sc_law : FnScope ["script", "draws", "turn", "rates", "whole", "principal", "days", "low", "spans", "first", "behind", "at", "end", "cut", "last"] ["script"] (defScope s_law) := ⟨rfl, rfl, rfl, by decide +kernel, rfl, by decide +kernel, by decide +kernel⟩
structure G (K : PySem.W.Frag) (mg : Str → Option Value) (base : Heap) (tb : Addr → Prop) where
  e : Ec
  a_is_number : Addr
  f_is_number : FuncData
  F_is_number : Fun K "is_number" "is_number" s_is_number a_is_number f_is_number
  b_is_number : Binds K f_is_number ["value", "least", "most"] []
  g_is_number : mg "is_number" = some (.ref a_is_number)
  a_is_day : Addr
  f_is_day : FuncData
  F_is_day : Fun K "is_day" "is_day" s_is_day a_is_day f_is_day
  b_is_day : Binds K f_is_day ["value"] []
  g_is_day : mg "is_day" = some (.ref a_is_day)
  a_is_fraction : Addr
  f_is_fraction : FuncData
  F_is_fraction : Fun K "is_fraction" "is_fraction" s_is_fraction a_is_fraction f_is_fraction
  b_is_fraction : Binds K f_is_fraction ["value"] []
  g_is_fraction : mg "is_fraction" = some (.ref a_is_fraction)
  a_lowest : Addr
  f_lowest : FuncData
  F_lowest : Fun K "lowest" "lowest" s_lowest a_lowest f_lowest
  b_lowest : Binds K f_lowest ["part", "whole"] []
  g_lowest : mg "lowest" = some (.ref a_lowest)
  a_plus : Addr
  f_plus : FuncData
  F_plus : Fun K "plus" "plus" s_plus a_plus f_plus
  b_plus : Binds K f_plus ["one", "other"] []
  g_plus : mg "plus" = some (.ref a_plus)
  a_times : Addr
  f_times : FuncData
  F_times : Fun K "times" "times" s_times a_times f_times
  b_times : Binds K f_times ["one", "other"] []
  g_times : mg "times" = some (.ref a_times)
  a_is_rate : Addr
  f_is_rate : FuncData
  F_is_rate : Fun K "is_rate" "is_rate" s_is_rate a_is_rate f_is_rate
  b_is_rate : Binds K f_is_rate ["value"] []
  g_is_rate : mg "is_rate" = some (.ref a_is_rate)
  a_is_rates : Addr
  f_is_rates : FuncData
  F_is_rates : Fun K "is_rates" "is_rates" s_is_rates a_is_rates f_is_rates
  b_is_rates : Binds K f_is_rates ["value"] []
  g_is_rates : mg "is_rates" = some (.ref a_is_rates)
  ct_is_rates : Addr
  tt_is_rates : Addr
  e_is_rates : f_is_rates.code = .ref ct_is_rates
  T_is_rates : TabB base mg ct_is_rates tt_is_rates
  t_is_rates : tb tt_is_rates
  a_interest : Addr
  f_interest : FuncData
  F_interest : Fun K "interest" "interest" s_interest a_interest f_interest
  b_interest : Binds K f_interest ["principal", "rates", "first", "behind"] []
  g_interest : mg "interest" = some (.ref a_interest)
  a__law_open : Addr
  f__law_open : FuncData
  F__law_open : Fun K "_law_open" "_law_open" s__law_open a__law_open f__law_open
  b__law_open : Binds K f__law_open ["script"] []
  g__law_open : mg "_law_open" = some (.ref a__law_open)
  a__law_mixed : Addr
  f__law_mixed : FuncData
  F__law_mixed : Fun K "_law_mixed" "_law_mixed" s__law_mixed a__law_mixed f__law_mixed
  b__law_mixed : Binds K f__law_mixed ["cell", "turn"] []
  g__law_mixed : mg "_law_mixed" = some (.ref a__law_mixed)
  a__law_draw : Addr
  f__law_draw : FuncData
  F__law_draw : Fun K "_law_draw" "_law_draw" s__law_draw a__law_draw f__law_draw
  b__law_draw : Binds K f__law_draw ["draws", "size"] []
  g__law_draw : mg "_law_draw" = some (.ref a__law_draw)
  a__law_wide : Addr
  f__law_wide : FuncData
  F__law_wide : Fun K "_law_wide" "_law_wide" s__law_wide a__law_wide f__law_wide
  b__law_wide : Binds K f__law_wide ["draws", "size"] []
  g__law_wide : mg "_law_wide" = some (.ref a__law_wide)
  a__law_told : Addr
  f__law_told : FuncData
  F__law_told : Fun K "_law_told" "_law_told" s__law_told a__law_told f__law_told
  b__law_told : Binds K f__law_told ["error"] []
  g__law_told : mg "_law_told" = some (.ref a__law_told)
  a__law_lowest : Addr
  f__law_lowest : FuncData
  F__law_lowest : Fun K "_law_lowest" "_law_lowest" s__law_lowest a__law_lowest f__law_lowest
  b__law_lowest : Binds K f__law_lowest ["part", "whole"] []
  g__law_lowest : mg "_law_lowest" = some (.ref a__law_lowest)
  a__law_rates : Addr
  f__law_rates : FuncData
  F__law_rates : Fun K "_law_rates" "_law_rates" s__law_rates a__law_rates f__law_rates
  b__law_rates : Binds K f__law_rates ["draws"] []
  g__law_rates : mg "_law_rates" = some (.ref a__law_rates)
  a__law_rate : Addr
  f__law_rate : FuncData
  F__law_rate : Fun K "_law_rate" "_law_rate" s__law_rate a__law_rate f__law_rate
  b__law_rate : Binds K f__law_rate ["rates", "day"] []
  g__law_rate : mg "_law_rate" = some (.ref a__law_rate)
  a__law_up_to : Addr
  f__law_up_to : FuncData
  F__law_up_to : Fun K "_law_up_to" "_law_up_to" s__law_up_to a__law_up_to f__law_up_to
  b__law_up_to : Binds K f__law_up_to ["rates", "day"] []
  g__law_up_to : mg "_law_up_to" = some (.ref a__law_up_to)
  a__law_short : Addr
  f__law_short : FuncData
  F__law_short : Fun K "_law_short" "_law_short" s__law_short a__law_short f__law_short
  b__law_short : Binds K f__law_short ["rates", "first", "behind"] []
  g__law_short : mg "_law_short" = some (.ref a__law_short)
  a__law_due : Addr
  f__law_due : FuncData
  F__law_due : Fun K "_law_due" "_law_due" s__law_due a__law_due f__law_due
  b__law_due : Binds K f__law_due ["principal", "rates", "first", "behind"] []
  g__law_due : mg "_law_due" = some (.ref a__law_due)
  a__law_is : Addr
  f__law_is : FuncData
  F__law_is : Fun K "_law_is" "_law_is" s__law_is a__law_is f__law_is
  b__law_is : Binds K f__law_is ["value", "due"] []
  g__law_is : mg "_law_is" = some (.ref a__law_is)
  a__law_asked : Addr
  f__law_asked : FuncData
  F__law_asked : Fun K "_law_asked" "_law_asked" s__law_asked a__law_asked f__law_asked
  b__law_asked : Binds K f__law_asked ["principal", "rates", "first", "behind"] []
  g__law_asked : mg "_law_asked" = some (.ref a__law_asked)
  a__law_wrong : Addr
  f__law_wrong : FuncData
  F__law_wrong : Fun K "_law_wrong" "_law_wrong" s__law_wrong a__law_wrong f__law_wrong
  b__law_wrong : Binds K f__law_wrong ["rates"] []
  g__law_wrong : mg "_law_wrong" = some (.ref a__law_wrong)
  a_law : Addr
  f_law : FuncData
  F_law : Fun K "law" "law" s_law a_law f_law
  b_law : Binds K f_law ["script"] []
  g_law : mg "law" = some (.ref a_law)
  z_ValueError : mg "ValueError" = none
  z_abs : mg "abs" = none
  z_all : mg "all" = none
  z_bool : mg "bool" = none
  z_int : mg "int" = none
  z_isinstance : mg "isinstance" = none
  z_len : mg "len" = none
  z_list : mg "list" = none
  z_max : mg "max" = none
  z_min : mg "min" = none
  z_range : mg "range" = none
  z_sorted : mg "sorted" = none
  z_tuple : mg "tuple" = none
  n_gcd : mg "gcd" = some (.builtin "math.gcd")
  w_LAST_DAY : V
  u_LAST_DAY : Value
  m_LAST_DAY : mg "LAST_DAY" = some u_LAST_DAY
  r_LAST_DAY : RelV w_LAST_DAY u_LAST_DAY
  d_LAST_DAY : ∀ M, Rp K M w_LAST_DAY v_LAST_DAY
  w_LIMIT : V
  u_LIMIT : Value
  m_LIMIT : mg "LIMIT" = some u_LIMIT
  r_LIMIT : RelV w_LIMIT u_LIMIT
  d_LIMIT : ∀ M, Rp K M w_LIMIT v_LIMIT
  w_MOST_WHOLE : V
  u_MOST_WHOLE : Value
  m_MOST_WHOLE : mg "MOST_WHOLE" = some u_MOST_WHOLE
  r_MOST_WHOLE : RelV w_MOST_WHOLE u_MOST_WHOLE
  d_MOST_WHOLE : ∀ M, Rp K M w_MOST_WHOLE v_MOST_WHOLE
  w_NOUGHT : V
  u_NOUGHT : Value
  m_NOUGHT : mg "NOUGHT" = some u_NOUGHT
  r_NOUGHT : RelV w_NOUGHT u_NOUGHT
  d_NOUGHT : ∀ M, Rp K M w_NOUGHT v_NOUGHT
  w_YEAR : V
  u_YEAR : Value
  m_YEAR : mg "YEAR" = some u_YEAR
  r_YEAR : RelV w_YEAR u_YEAR
  d_YEAR : ∀ M, Rp K M w_YEAR v_YEAR
  m_DocketError : mg "DocketError" = some (.ref e.DocketError)
  q_DocketError : PySem.W.excIn K e.DocketError [.type "ValueError", .type "Exception", .type "BaseException", .type "object"] "ValueError.__new__" = true
  k_DocketError : PySem.W.keepIn K (.ref e.DocketError) = true
  b1_DocketError : PySem.W.subIn K (.ref e.DocketError) (.type "BaseException") = some true
  t1_DocketError : PySem.W.typeIn K (.ref e.DocketError) = some (.type "type")
  m_Malformed : mg "Malformed" = some (.ref e.Malformed)
  q_Malformed : PySem.W.excIn K e.Malformed [.type "ValueError", .type "Exception", .type "BaseException", .type "object"] "ValueError.__new__" = true
  k_Malformed : PySem.W.keepIn K (.ref e.Malformed) = true
  b1_Malformed : PySem.W.subIn K (.ref e.Malformed) (.type "BaseException") = some true
  t1_Malformed : PySem.W.typeIn K (.ref e.Malformed) = some (.type "type")
  m_NotThere : mg "NotThere" = some (.ref e.NotThere)
  q_NotThere : PySem.W.excIn K e.NotThere [.type "ValueError", .type "Exception", .type "BaseException", .type "object"] "ValueError.__new__" = true
  k_NotThere : PySem.W.keepIn K (.ref e.NotThere) = true
  b1_NotThere : PySem.W.subIn K (.ref e.NotThere) (.type "BaseException") = some true
  t1_NotThere : PySem.W.typeIn K (.ref e.NotThere) = some (.type "type")
  m_OutOfRange : mg "OutOfRange" = some (.ref e.OutOfRange)
  q_OutOfRange : PySem.W.excIn K e.OutOfRange [.type "ValueError", .type "Exception", .type "BaseException", .type "object"] "ValueError.__new__" = true
  k_OutOfRange : PySem.W.keepIn K (.ref e.OutOfRange) = true
  b1_OutOfRange : PySem.W.subIn K (.ref e.OutOfRange) (.type "BaseException") = some true
  t1_OutOfRange : PySem.W.typeIn K (.ref e.OutOfRange) = some (.type "type")
  m_Refused : mg "Refused" = some (.ref e.Refused)
  q_Refused : PySem.W.excIn K e.Refused [.type "ValueError", .type "Exception", .type "BaseException", .type "object"] "ValueError.__new__" = true
  k_Refused : PySem.W.keepIn K (.ref e.Refused) = true
  b1_Refused : PySem.W.subIn K (.ref e.Refused) (.type "BaseException") = some true
  t1_Refused : PySem.W.typeIn K (.ref e.Refused) = some (.type "type")
  m_TooMuch : mg "TooMuch" = some (.ref e.TooMuch)
  q_TooMuch : PySem.W.excIn K e.TooMuch [.type "ValueError", .type "Exception", .type "BaseException", .type "object"] "ValueError.__new__" = true
  k_TooMuch : PySem.W.keepIn K (.ref e.TooMuch) = true
  b1_TooMuch : PySem.W.subIn K (.ref e.TooMuch) (.type "BaseException") = some true
  t1_TooMuch : PySem.W.typeIn K (.ref e.TooMuch) = some (.type "type")
section
variable {P : Program} {w : World} {K : PySem.W.Frag} {mg : Str → Option Value} {base : Heap} {tb : Addr → Prop}
theorem w_is_number (g : G K mg base tb) {sp2 : PSpec} (hl : ∀ as Qr Qe, sp2 as Qr Qe → as.length = 3) (h : ∀ as Qr Qe, sp2 as Qr Qe → rd_is_number K g.e (enOf Qr Qe) (begin_ 3 as)) : FnOk P w K mg base (L2N.CX P w) 1 g.a_is_number g.f_is_number ["value", "least", "most"] (spOf K (opn tb) sp2) :=
  okDC g.F_is_number sc_is_number hl (fun cdv A outer s H E hc hr =>
    (jss_one (js_retE (je_and (je_isi tk_int (by rfl) g.z_isinstance (by rfl) g.z_int PyProof.Rows.boot_int (je_name 0)) (je_and (je_not (je_isi tk_bool (by rfl) g.z_isinstance (by rfl) g.z_bool PyProof.Rows.boot_bool (je_name 0))) (je_one (je_ch c_le c_le (je_name 1) (je_name 0) (je_name 2)))))))) h
theorem w_is_day (g : G K mg base tb) (O_is_number : FnOk P w K mg base (L2N.CX P w) 1 g.a_is_number g.f_is_number ["value", "least", "most"] (spOf K (opn tb) (sp_is_number g.e))) {sp2 : PSpec} (hl : ∀ as Qr Qe, sp2 as Qr Qe → as.length = 1) (h : ∀ as Qr Qe, sp2 as Qr Qe → rd_is_day K g.e (enOf Qr Qe) (begin_ 1 as)) : FnOk P w K mg base (L2N.CX P w) 2 g.a_is_day g.f_is_day ["value"] (spOf K (opn tb) sp2) :=
  okDC g.F_is_day sc_is_day hl (fun cdv A outer s H E hc hr =>
    (jss_one (js_ret (jr_call O_is_number (Room.mono hr (by first | decide | omega)) (by rfl) g.g_is_number g.F_is_number.kp g.b_is_number (jc_cons (je_name 0) (jc_cons je_int (jc_cons (je_glob (by rfl) g.m_LAST_DAY g.r_LAST_DAY g.d_LAST_DAY) jc_nil))))))) h
theorem w_is_fraction (g : G K mg base tb) {sp2 : PSpec} (hl : ∀ as Qr Qe, sp2 as Qr Qe → as.length = 1) (h : ∀ as Qr Qe, sp2 as Qr Qe → rd_is_fraction K g.e (enOf Qr Qe) (begin_ 4 as)) : FnOk P w K mg base (L2N.CX P w) 1 g.a_is_fraction g.f_is_fraction ["value"] (spOf K (opn tb) sp2) :=
  okDC g.F_is_fraction sc_is_fraction hl (fun cdv A outer s H E hc hr =>
    (jss_cons (js_if (jw_pt (jw_or (jt_not (jt_truth (je_isi tk_tuple (by rfl) g.z_isinstance (by rfl) g.z_tuple PyProof.Rows.boot_tuple (je_name 0)))) (jw_or1 (jt_cm (c_ne (L2H.roomH_of hr)) (je_callB call_len cs_len (by rfl) g.z_len PySem.boot_len (ja_cons (je_name 0) ja_nil)) je_int)))) (jss_one (js_retE je_bool)) jss_nil)
      (jss_cons (js_asg (je_name 0) (jg_tup rfl (jgs_cons (jg_name 1 sc_is_fraction.nd) (jgs_cons (jg_name 2 sc_is_fraction.nd) jgs_nil))))
      (jss_cons (js_for rfl (ji_seq (je_name 0)) (jg_name 3 sc_is_fraction.nd) (jss_one (js_if (jw_pt (jw_or (jt_not (jt_truth (je_isi tk_int (by rfl) g.z_isinstance (by rfl) g.z_int PyProof.Rows.boot_int (je_name 3)))) (jw_or1 (jt_truth (je_isi tk_bool (by rfl) g.z_isinstance (by rfl) g.z_bool PyProof.Rows.boot_bool (je_name 3)))))) (jss_one (js_retE je_bool)) jss_nil)))
      (jss_one (js_retE (je_and (je_ch c_le c_le (je_neg (je_glob (by rfl) g.m_LIMIT g.r_LIMIT g.d_LIMIT)) (je_name 1) (je_glob (by rfl) g.m_LIMIT g.r_LIMIT g.d_LIMIT)) (je_and (je_ch c_le c_le je_int (je_name 2) (je_glob (by rfl) g.m_LIMIT g.r_LIMIT g.d_LIMIT)) (je_one (je_cm (c_eq (L2H.roomH_of hr)) (je_callBf cr_gcd cs_gcd (by rfl) g.n_gcd (ja_cons (je_name 1) (ja_cons (je_name 2) ja_nil))) je_int)))))))))) h
theorem w_lowest (g : G K mg base tb) {sp2 : PSpec} (hl : ∀ as Qr Qe, sp2 as Qr Qe → as.length = 2) (h : ∀ as Qr Qe, sp2 as Qr Qe → rd_lowest K g.e (enOf Qr Qe) (begin_ 3 as)) : FnOk P w K mg base (L2N.CX P w) 1 g.a_lowest g.f_lowest ["part", "whole"] (spOf K (opn tb) sp2) :=
  okDC g.F_lowest sc_lowest hl (fun cdv A outer s H E hc hr =>
    (jss_cons (js_setE 2 sc_lowest.nd (je_callBf cr_gcd cs_gcd (by rfl) g.n_gcd (ja_cons (je_name 0) (ja_cons (je_name 1) ja_nil))))
      (jss_cons (js_if (jt_cm c_lt (je_name 1) je_int) (jss_one (js_setE 2 sc_lowest.nd (je_neg (je_name 2)))) jss_nil)
      (jss_one (js_retE (je_tup (ja_cons (je_divZ (je_name 0) (je_name 2)) (ja_cons (je_divZ (je_name 1) (je_name 2)) ja_nil)))))))) h
theorem w_plus (g : G K mg base tb) (O_lowest : FnOk P w K mg base (L2N.CX P w) 1 g.a_lowest g.f_lowest ["part", "whole"] (spOf K (opn tb) (sp_lowest g.e))) {sp2 : PSpec} (hl : ∀ as Qr Qe, sp2 as Qr Qe → as.length = 2) (h : ∀ as Qr Qe, sp2 as Qr Qe → rd_plus K g.e (enOf Qr Qe) (begin_ 2 as)) : FnOk P w K mg base (L2N.CX P w) 2 g.a_plus g.f_plus ["one", "other"] (spOf K (opn tb) sp2) :=
  okDC g.F_plus sc_plus hl (fun cdv A outer s H E hc hr =>
    (jss_one (js_ret (jr_call O_lowest (Room.mono hr (by first | decide | omega)) (by rfl) g.g_lowest g.F_lowest.kp g.b_lowest (jc_cons (je_add (je_mul (je_ixN 0 je_int) (je_ixN 1 je_int)) (je_mul (je_ixN 1 je_int) (je_ixN 0 je_int))) (jc_cons (je_mul (je_ixN 0 je_int) (je_ixN 1 je_int)) jc_nil)))))) h
theorem w_times (g : G K mg base tb) (O_lowest : FnOk P w K mg base (L2N.CX P w) 1 g.a_lowest g.f_lowest ["part", "whole"] (spOf K (opn tb) (sp_lowest g.e))) {sp2 : PSpec} (hl : ∀ as Qr Qe, sp2 as Qr Qe → as.length = 2) (h : ∀ as Qr Qe, sp2 as Qr Qe → rd_times K g.e (enOf Qr Qe) (begin_ 2 as)) : FnOk P w K mg base (L2N.CX P w) 2 g.a_times g.f_times ["one", "other"] (spOf K (opn tb) sp2) :=
  okDC g.F_times sc_times hl (fun cdv A outer s H E hc hr =>
    (jss_one (js_ret (jr_call O_lowest (Room.mono hr (by first | decide | omega)) (by rfl) g.g_lowest g.F_lowest.kp g.b_lowest (jc_cons (je_mul (je_ixN 0 je_int) (je_ixN 1 je_int)) (jc_cons (je_mul (je_ixN 0 je_int) (je_ixN 1 je_int)) jc_nil)))))) h
theorem w_is_rate (g : G K mg base tb) (O_is_fraction : FnOk P w K mg base (L2N.CX P w) 1 g.a_is_fraction g.f_is_fraction ["value"] (spOf K (opn tb) (sp_is_fraction g.e))) {sp2 : PSpec} (hl : ∀ as Qr Qe, sp2 as Qr Qe → as.length = 1) (h : ∀ as Qr Qe, sp2 as Qr Qe → rd_is_rate K g.e (enOf Qr Qe) (begin_ 1 as)) : FnOk P w K mg base (L2N.CX P w) 2 g.a_is_rate g.f_is_rate ["value"] (spOf K (opn tb) sp2) :=
  okDC g.F_is_rate sc_is_rate hl (fun cdv A outer s H E hc hr =>
    (jss_one (js_retE (je_and (je_of (jr_call O_is_fraction (Room.mono hr (by first | decide | omega)) (by rfl) g.g_is_fraction g.F_is_fraction.kp g.b_is_fraction (jc_cons (je_name 0) jc_nil))) (je_one (je_ch3 c_le c_le c_le je_int (je_ixN 0 je_int) (je_ixN 0 je_int) (je_glob (by rfl) g.m_MOST_WHOLE g.r_MOST_WHOLE g.d_MOST_WHOLE))))))) h
theorem w_is_rates (g : G K mg base tb) (O_is_day : FnOk P w K mg base (L2N.CX P w) 2 g.a_is_day g.f_is_day ["value"] (spOf K (opn tb) (sp_is_day g.e))) (O_is_rate : FnOk P w K mg base (L2N.CX P w) 2 g.a_is_rate g.f_is_rate ["value"] (spOf K (opn tb) (sp_is_rate g.e))) {sp2 : PSpec} (hl : ∀ as Qr Qe, sp2 as Qr Qe → as.length = 1) (h : ∀ as Qr Qe, sp2 as Qr Qe → rd_is_rates K g.e (enOf Qr Qe) (begin_ 3 as)) : FnOk P w K mg base (L2N.CX P w) 5 g.a_is_rates g.f_is_rates ["value"] (spOf K (opn tb) sp2) :=
  okDC g.F_is_rates sc_is_rates hl (fun cdv A outer s H E hc hr =>
    (jss_cons (js_if (jw_pt (jw_or (jt_not (jt_truth (je_isi tk_tuple (by rfl) g.z_isinstance (by rfl) g.z_tuple PyProof.Rows.boot_tuple (je_name 0)))) (jw_or1 (jt_not (jt_ch c_le c_le je_int (je_callB call_len cs_len (by rfl) g.z_len PySem.boot_len (ja_cons (je_name 0) ja_nil)) je_int))))) (jss_one (js_retE je_bool)) jss_nil)
      (jss_cons (js_for rfl (ji_seq (je_name 0)) (jg_name 1 sc_is_rates.nd) (jss_one (js_if (jw_pt (jw_or (jt_not (jt_truth (je_isi tk_tuple (by rfl) g.z_isinstance (by rfl) g.z_tuple PyProof.Rows.boot_tuple (je_name 1)))) (jw_or (jt_cm (c_ne (L2H.roomH_of hr)) (je_callB call_len cs_len (by rfl) g.z_len PySem.boot_len (ja_cons (je_name 1) ja_nil)) je_int) (jw_or (jt_not (jt_truth (je_of (jr_call O_is_day (Room.mono hr (by first | decide | omega)) (by rfl) g.g_is_day g.F_is_day.kp g.b_is_day (jc_cons (je_ixN 1 je_int) jc_nil))))) (jw_or1 (jt_not (jt_truth (je_of (jr_call O_is_rate (Room.mono hr (by first | decide | omega)) (by rfl) g.g_is_rate g.F_is_rate.kp g.b_is_rate (jc_cons (je_ixN 1 je_int) jc_nil)))))))))) (jss_one (js_retE je_bool)) jss_nil)))
      (jss_one (js_retE (je_and (je_cm (c_eq (L2H.roomH_of hr)) (je_ix (je_ixN 0 je_int) je_int) je_int) (je_one (je_allG [] [("k", 2)] g.t_is_rates hr (by rfl) g.z_all sc_is_rates.nd g.T_is_rates (hc.trans g.e_is_rates) rfl (by decide +kernel) (by rfl) (blkOk_at ["value", "pair", "k"] (defScope s_is_rates) (by decide +kernel)) (ji_rng1 (by rfl) g.z_range (ja_cons (je_sub (je_callB call_len cs_len (by rfl) g.z_len PySem.boot_len (ja_cons (je_name 0) ja_nil)) je_int) ja_nil)) (fun s H C cl cd bi fp => (jgw_name 2 sc_is_rates.nd)) (fun s H C cl cd bi fp => jf_nil) (fun s H C cl cd bi fp => (je_cm c_lt (je_ix (je_ixN 0 (je_name 2)) je_int) (je_ix (je_ixN 0 (je_add (je_name 2) je_int)) je_int))))))))))) h
theorem w_interest (g : G K mg base tb) (O_times : FnOk P w K mg base (L2N.CX P w) 2 g.a_times g.f_times ["one", "other"] (spOf K (opn tb) (sp_times g.e))) (O_plus : FnOk P w K mg base (L2N.CX P w) 2 g.a_plus g.f_plus ["one", "other"] (spOf K (opn tb) (sp_plus g.e))) {sp2 : PSpec} (hl : ∀ as Qr Qe, sp2 as Qr Qe → as.length = 4) (h : ∀ as Qr Qe, sp2 as Qr Qe → rd_interest K g.e (enOf Qr Qe) (begin_ 10 as)) : FnOk P w K mg base (L2N.CX P w) 3 g.a_interest g.f_interest ["principal", "rates", "first", "behind"] (spOf K (opn tb) sp2) :=
  okDC g.F_interest sc_interest hl (fun cdv A outer s H E hc hr =>
    (jss_cons (js_if (jt_cm c_lt (je_name 3) (je_name 2)) (jss_one (js_raise rfl g.q_Refused g.m_Refused g.k_Refused g.b1_Refused g.t1_Refused (by rfl))) jss_nil)
      (jss_cons (js_setE 4 sc_interest.nd (je_glob (by rfl) g.m_NOUGHT g.r_NOUGHT g.d_NOUGHT))
      (jss_cons (js_for rfl (ji_rng1 (by rfl) g.z_range (ja_cons (je_callB call_len cs_len (by rfl) g.z_len PySem.boot_len (ja_cons (je_name 1) ja_nil)) ja_nil)) (jg_name 5 sc_interest.nd) (jss_cons (js_asg (je_ixN 1 (je_name 5)) (jg_tup rfl (jgs_cons (jg_name 6 sc_interest.nd) (jgs_cons (jg_name 7 sc_interest.nd) jgs_nil))))
      (jss_cons (js_setE 8 sc_interest.nd (je_if (jt_cm c_lt (je_add (je_name 5) je_int) (je_callB call_len cs_len (by rfl) g.z_len PySem.boot_len (ja_cons (je_name 1) ja_nil))) (je_ix (je_ixN 1 (je_add (je_name 5) je_int)) je_int) (je_name 3)))
      (jss_cons (js_setE 9 sc_interest.nd (je_sub (je_callB (call_min2 rfl) (cs_I2 fun _ _ _ => .int _) (by rfl) g.z_min PyProof.Rows.boot_min (ja_cons (je_name 8) (ja_cons (je_name 3) ja_nil))) (je_callB (call_max2 rfl) (cs_I2 fun _ _ _ => .int _) (by rfl) g.z_max PyProof.Rows.boot_max (ja_cons (je_name 6) (ja_cons (je_name 2) ja_nil)))))
      (jss_one (js_if (jt_cm c_gt (je_name 9) je_int) (jss_one (js_set 4 sc_interest.nd (jr_call O_plus (Room.mono hr (by first | decide | omega)) (by rfl) g.g_plus g.F_plus.kp g.b_plus (jc_cons (je_name 4) (jc_cons (je_of (jr_call O_times (Room.mono hr (by first | decide | omega)) (by rfl) g.g_times g.F_times.kp g.b_times (jc_cons (je_name 7) (jc_cons (je_tup (ja_cons (je_name 9) (ja_cons je_int ja_nil))) jc_nil)))) jc_nil))))) jss_nil))))))
      (jss_one (js_ret (jr_call O_times (Room.mono hr (by first | decide | omega)) (by rfl) g.g_times g.F_times.kp g.b_times (jc_cons (je_of (jr_call O_times (Room.mono hr (by first | decide | omega)) (by rfl) g.g_times g.F_times.kp g.b_times (jc_cons (je_name 0) (jc_cons (je_name 4) jc_nil)))) (jc_cons (je_tup (ja_cons je_int (ja_cons (je_glob (by rfl) g.m_YEAR g.r_YEAR g.d_YEAR) ja_nil))) jc_nil))))))))) h
theorem w__law_open (g : G K mg base tb) {sp2 : PSpec} (hl : ∀ as Qr Qe, sp2 as Qr Qe → as.length = 1) (h : ∀ as Qr Qe, sp2 as Qr Qe → rd__law_open K g.e (enOf Qr Qe) (begin_ 3 as)) : FnOk P w K mg base (L2N.CX P w) 1 g.a__law_open g.f__law_open ["script"] (spOf K (opn tb) sp2) :=
  okDC g.F__law_open sc__law_open hl (fun cdv A outer s H E hc hr =>
    (jss_cons (js_setLc [] [("cell", 2)] 1 rfl sc__law_open.nd (ji_seq (je_sliceFz 0 jo_none (jo_some je_int))) (blkOk_at ["script", "cells", "cell"] (defScope s__law_open) (by decide +kernel)) (fun s H C cl fp => (jgw_name 2 sc__law_open.nd)) (fun s H C cl fp => jf_nil) (fun s H C cl fp => (je_callB call_abs cs_abs (by rfl) g.z_abs PyProof.Rows.boot_abs (ja_cons (je_callTy call_int1 cs_int (by rfl) g.z_int PyProof.Rows.boot_int (ja_cons (je_name 2) ja_nil)) ja_nil))))
      (jss_one (js_ret (jr_lst (ja_cons je_int (ja_cons je_int (ja_cons (je_add (je_name 1) (je_of (jr_lst (ja_cons je_int ja_nil)))) ja_nil)))))))) h
theorem w__law_mixed (g : G K mg base tb) {sp2 : PSpec} (hl : ∀ as Qr Qe, sp2 as Qr Qe → as.length = 2) (h : ∀ as Qr Qe, sp2 as Qr Qe → rd__law_mixed K g.e (enOf Qr Qe) (begin_ 3 as)) : FnOk P w K mg base (L2N.CX P w) 1 g.a__law_mixed g.f__law_mixed ["cell", "turn"] (spOf K (opn tb) sp2) :=
  okDC g.F__law_mixed sc__law_mixed hl (fun cdv A outer s H E hc hr =>
    (jss_cons (js_setE 2 sc__law_mixed.nd (je_mod (je_add (je_add (je_mul (je_mod (je_name 0) (je_sub (je_pow je_int je_int) je_int)) je_int) (je_mul (je_name 1) je_int)) je_int) (je_pow je_int je_int)))
      (jss_cons (js_setE 2 sc__law_mixed.nd (je_mod (je_mul (je_xor (je_name 2) (je_shr (je_name 2) je_int)) je_int) (je_pow je_int je_int)))
      (jss_one (js_retE (je_mod (je_mul (je_xor (je_name 2) (je_shr (je_name 2) je_int)) je_int) (je_pow je_int je_int))))))) h
theorem w__law_draw (g : G K mg base tb) (O__law_mixed : FnOk P w K mg base (L2N.CX P w) 1 g.a__law_mixed g.f__law_mixed ["cell", "turn"] (spOf K (opn tb) (sp__law_mixed g.e))) {sp2 : PSpec} (hl : ∀ as Qr Qe, sp2 as Qr Qe → as.length = 2) (h : ∀ as Qr Qe, sp2 as Qr Qe → rd__law_draw K g.e (enOf Qr Qe) (begin_ 6 as)) : FnOk P w K mg base (L2N.CX P w) 2 g.a__law_draw g.f__law_draw ["draws", "size"] (spOf K (opn tb) sp2) :=
  okDC g.F__law_draw sc__law_draw hl (fun cdv A outer s H E hc hr =>
    (jss_cons (js_opn 0 2 3 4 rfl sc__law_draw.nd)
      (jss_cons (js_if (jt_cm c_lt (je_name 3) (je_name 1)) (jss_cons (js_setE 5 sc__law_draw.nd (je_ixN 4 (je_mod (je_name 2) (je_callB call_len cs_len (by rfl) g.z_len PySem.boot_len (ja_cons (je_name 4) ja_nil)))))
      (jss_cons (js_setE 3 sc__law_draw.nd (je_if (jw_pt (jw_and (jt_cm c_lt (je_name 2) (je_callB call_len cs_len (by rfl) g.z_len PySem.boot_len (ja_cons (je_name 4) ja_nil))) (jw_and1 (jt_cm c_ge (je_name 5) (je_pow je_int je_int))))) (je_name 5) (je_of (jr_call O__law_mixed (Room.mono hr (by first | decide | omega)) (by rfl) g.g__law_mixed g.F__law_mixed.kp g.b__law_mixed (jc_cons (je_name 5) (jc_cons (je_name 2) jc_nil))))))
      (jss_one (js_setE 2 sc__law_draw.nd (je_add (je_name 2) je_int))))) jss_nil)
      (jss_cons (js_put 0 (je_name 2) je_int)
      (jss_cons (js_put 0 (je_div (je_name 3) (je_name 1)) je_int)
      (jss_one (js_retE (je_mod (je_name 3) (je_name 1))))))))) h
theorem w__law_wide (g : G K mg base tb) (O__law_draw : FnOk P w K mg base (L2N.CX P w) 2 g.a__law_draw g.f__law_draw ["draws", "size"] (spOf K (opn tb) (sp__law_draw g.e))) {sp2 : PSpec} (hl : ∀ as Qr Qe, sp2 as Qr Qe → as.length = 2) (h : ∀ as Qr Qe, sp2 as Qr Qe → rd__law_wide K g.e (enOf Qr Qe) (begin_ 4 as)) : FnOk P w K mg base (L2N.CX P w) 3 g.a__law_wide g.f__law_wide ["draws", "size"] (spOf K (opn tb) sp2) :=
  okDC g.F__law_wide sc__law_wide hl (fun cdv A outer s H E hc hr =>
    (jss_cons (js_setE 2 sc__law_wide.nd je_int)
      (jss_cons (js_for rfl (ji_rng1 (by rfl) g.z_range (ja_cons je_int ja_nil)) (jg_name 3 sc__law_wide.nd) (jss_one (js_setE 2 sc__law_wide.nd (je_add (je_mul (je_name 2) (je_pow je_int je_int)) (je_of (jr_call O__law_draw (Room.mono hr (by first | decide | omega)) (by rfl) g.g__law_draw g.F__law_draw.kp g.b__law_draw (jc_src 0 (jc_cons (je_pow je_int je_int) jc_nil))))))))
      (jss_one (js_retE (je_mod (je_name 2) (je_name 1))))))) h
theorem wX__law_told (g : G K mg base tb) {sp2 : Addr → Value → PSpec} (hl : ∀ a c as Qr Qe, sp2 a c as Qr Qe → as.length = 1) (h : ∀ a c as Qr Qe, sp2 a c as Qr Qe → rdX__law_told K g.e a c (enOf Qr Qe) (begin_ 5 as)) : FnX P w K mg base (L2N.CX P w) 1 g.a__law_told g.f__law_told ["error"] (spX K (opn tb) sp2) :=
  okX g.F__law_told sc__law_told hl (fun cdv A outer s H E a oe cls hz hv hot hr =>
    (jss_cons (js_set 1 sc__law_told.nd (jr_lst (ja_cons (je_tup (ja_cons je_str (ja_cons (je_isE 0 hz hv (List.mem_singleton.mpr rfl) (by rfl) g.z_isinstance (by rfl) g.m_OutOfRange) ja_nil))) (ja_cons (je_tup (ja_cons je_str (ja_cons (je_isE 0 hz hv (List.mem_singleton.mpr rfl) (by rfl) g.z_isinstance (by rfl) g.m_Malformed) ja_nil))) (ja_cons (je_tup (ja_cons je_str (ja_cons (je_isE 0 hz hv (List.mem_singleton.mpr rfl) (by rfl) g.z_isinstance (by rfl) g.m_NotThere) ja_nil))) (ja_cons (je_tup (ja_cons je_str (ja_cons (je_isE 0 hz hv (List.mem_singleton.mpr rfl) (by rfl) g.z_isinstance (by rfl) g.m_Refused) ja_nil))) (ja_cons (je_tup (ja_cons je_str (ja_cons (je_isE 0 hz hv (List.mem_singleton.mpr rfl) (by rfl) g.z_isinstance (by rfl) g.m_TooMuch) ja_nil))) ja_nil)))))))
      (jss_cons (js_setLcX [] [("name", 3), ("true", 4)] 2 hot sc__law_told.nd (je_name 1) (blkOk_at ["error", "kinds", "names", "name", "true"] (defScope s__law_told) (by decide +kernel)) (fun s H C cl fp => (jgx_tup (jgsw_cons (jgw_name 3 sc__law_told.nd) (jgsw_cons (jgw_name 4 sc__law_told.nd) jgsw_nil)))) (fun s H C cl fp => (jf_one (jt_truth (je_name 4)))) (fun s H C cl fp => (je_name 3)))
      (jss_cons (js_if (jw_pt (jw_or (jt_cm (c_ne hr) (je_lenN 2 (by rfl) g.z_len) je_int) (jw_or1 (jt_not (jt_truth (je_isB 0 hz hv (List.mem_singleton.mpr rfl) (by rfl) g.z_isinstance (by rfl) g.z_ValueError (by decide +kernel))))))) (jss_one (js_retE je_str)) jss_nil)
      (jss_one (js_retE (je_ixN 2 je_int))))))) h
theorem w__law_lowest (g : G K mg base tb) {sp2 : PSpec} (hl : ∀ as Qr Qe, sp2 as Qr Qe → as.length = 2) (h : ∀ as Qr Qe, sp2 as Qr Qe → rd__law_lowest K g.e (enOf Qr Qe) (begin_ 6 as)) : FnOk P w K mg base (L2N.CX P w) 1 g.a__law_lowest g.f__law_lowest ["part", "whole"] (spOf K (opn tb) sp2) :=
  okDC g.F__law_lowest sc__law_lowest hl (fun cdv A outer s H E hc hr =>
    (jss_cons (js_setE 2 sc__law_lowest.nd (je_name 1))
      (jss_cons (js_setE 3 sc__law_lowest.nd (je_name 0))
      (jss_cons (js_for rfl (ji_rng1 (by rfl) g.z_range (ja_cons je_int ja_nil)) (jg_name 4 sc__law_lowest.nd) (jss_cons (js_if (jt_cm (c_eq (L2H.roomH_of hr)) (je_name 3) je_int) (jss_one js_break) jss_nil)
      (jss_cons (js_setE 5 sc__law_lowest.nd (je_mod (je_name 2) (je_name 3)))
      (jss_cons (js_setE 2 sc__law_lowest.nd (je_name 3))
      (jss_one (js_setE 3 sc__law_lowest.nd (je_name 5)))))))
      (jss_one (js_retE (je_tup (ja_cons (je_div (je_name 0) (je_name 2)) (ja_cons (je_div (je_name 1) (je_name 2)) ja_nil))))))))) h
theorem w__law_rates (g : G K mg base tb) (O__law_draw : FnOk P w K mg base (L2N.CX P w) 2 g.a__law_draw g.f__law_draw ["draws", "size"] (spOf K (opn tb) (sp__law_draw g.e))) (O__law_lowest : FnOk P w K mg base (L2N.CX P w) 1 g.a__law_lowest g.f__law_lowest ["part", "whole"] (spOf K (opn tb) (sp__law_lowest g.e))) {sp2 : PSpec} (hl : ∀ as Qr Qe, sp2 as Qr Qe → as.length = 1) (h : ∀ as Qr Qe, sp2 as Qr Qe → rd__law_rates K g.e (enOf Qr Qe) (begin_ 7 as)) : FnOk P w K mg base (L2N.CX P w) 3 g.a__law_rates g.f__law_rates ["draws"] (spOf K (opn tb) sp2) :=
  okDC g.F__law_rates sc__law_rates hl (fun cdv A outer s H E hc hr =>
    (jss_cons (js_set 1 sc__law_rates.nd (jr_lst (ja_cons je_int ja_nil)))
      (jss_cons (js_set 2 sc__law_rates.nd (jr_call O__law_draw (Room.mono hr (by first | decide | omega)) (by rfl) g.g__law_draw g.F__law_draw.kp g.b__law_draw (jc_src 0 (jc_cons je_int jc_nil))))
      (jss_cons (js_for rfl (ji_rng1 (by rfl) g.z_range (ja_cons (je_of (jr_call O__law_draw (Room.mono hr (by first | decide | omega)) (by rfl) g.g__law_draw g.F__law_draw.kp g.b__law_draw (jc_src 0 (jc_cons (je_ix (je_of (jr_lst (ja_cons je_int (ja_cons je_int (ja_cons je_int ja_nil))))) (je_name 2)) jc_nil)))) ja_nil)) (jg_name 3 sc__law_rates.nd) (jss_cons (js_setE 4 sc__law_rates.nd (je_add je_int (je_of (jr_call O__law_draw (Room.mono hr (by first | decide | omega)) (by rfl) g.g__law_draw g.F__law_draw.kp g.b__law_draw (jc_src 0 (jc_cons (je_ix (je_of (jr_lst (ja_cons je_int (ja_cons je_int (ja_cons je_int ja_nil))))) (je_name 2)) jc_nil))))))
      (jss_one (js_if (jt_notinN 1 (je_name 4)) (jss_one (js_expr (jr_of (je_mt 1 PySem.F.plainAttrs_list PySem.F.slot_list_append PySem.F.type_list_append mt_append ms_append (ja_cons (je_name 4) ja_nil))))) jss_nil))))
      (jss_cons (js_set 5 sc__law_rates.nd (jr_lst ja_nil))
      (jss_cons (js_for rfl (ji_seq (je_of (jr_sortI (by rfl) g.z_sorted (je_name 1)))) (jg_name 4 sc__law_rates.nd) (jss_cons (js_setE 6 sc__law_rates.nd (je_add je_int (je_of (jr_call O__law_draw (Room.mono hr (by first | decide | omega)) (by rfl) g.g__law_draw g.F__law_draw.kp g.b__law_draw (jc_src 0 (jc_cons (je_ix (je_of (jr_lst (ja_cons je_int (ja_cons je_int (ja_cons je_int ja_nil))))) (je_of (jr_call O__law_draw (Room.mono hr (by first | decide | omega)) (by rfl) g.g__law_draw g.F__law_draw.kp g.b__law_draw (jc_src 0 (jc_cons je_int jc_nil))))) jc_nil))))))
      (jss_one (js_expr (jr_of (je_mt 5 PySem.F.plainAttrs_list PySem.F.slot_list_append PySem.F.type_list_append mt_append ms_append (ja_cons (je_tup (ja_cons (je_name 4) (ja_cons (je_of (jr_call O__law_lowest (Room.mono hr (by first | decide | omega)) (by rfl) g.g__law_lowest g.F__law_lowest.kp g.b__law_lowest (jc_cons (je_of (jr_call O__law_draw (Room.mono hr (by first | decide | omega)) (by rfl) g.g__law_draw g.F__law_draw.kp g.b__law_draw (jc_src 0 (jc_cons (je_add (je_name 6) je_int) jc_nil)))) (jc_cons (je_name 6) jc_nil)))) ja_nil))) ja_nil)))))))
      (jss_one (js_retE (je_tupN 5 (by rfl) g.z_tuple))))))))) h
theorem w__law_rate (g : G K mg base tb) {sp2 : PSpec} (hl : ∀ as Qr Qe, sp2 as Qr Qe → as.length = 2) (h : ∀ as Qr Qe, sp2 as Qr Qe → rd__law_rate K g.e (enOf Qr Qe) (begin_ 4 as)) : FnOk P w K mg base (L2N.CX P w) 1 g.a__law_rate g.f__law_rate ["rates", "day"] (spOf K (opn tb) sp2) :=
  okDC g.F__law_rate sc__law_rate hl (fun cdv A outer s H E hc hr =>
    (jss_one (js_retE (je_ix (je_of (jr_lc [] [("first", 2), ("rate", 3)] rfl sc__law_rate.nd (ji_seq (je_name 0)) (blkOk_at ["rates", "day", "first", "rate"] (defScope s__law_rate) (by decide +kernel)) (fun s H C cl fp => (jgw_tup rfl (jgsw_cons (jgw_name 2 sc__law_rate.nd) (jgsw_cons (jgw_name 3 sc__law_rate.nd) jgsw_nil)))) (fun s H C cl fp => (jf_one (jt_cm c_le (je_name 2) (je_name 1)))) (fun s H C cl fp => (je_name 3)))) (je_neg je_int))))) h
theorem w__law_up_to (g : G K mg base tb) {sp2 : PSpec} (hl : ∀ as Qr Qe, sp2 as Qr Qe → as.length = 2) (h : ∀ as Qr Qe, sp2 as Qr Qe → rd__law_up_to K g.e (enOf Qr Qe) (begin_ 9 as)) : FnOk P w K mg base (L2N.CX P w) 1 g.a__law_up_to g.f__law_up_to ["rates", "day"] (spOf K (opn tb) sp2) :=
  okDC g.F__law_up_to sc__law_up_to hl (fun cdv A outer s H E hc hr =>
    (jss_cons (js_setE 2 sc__law_up_to.nd je_int)
      (jss_cons (js_setE 3 sc__law_up_to.nd je_int)
      (jss_cons (js_for rfl (ji_rng1 (by rfl) g.z_range (ja_cons (je_callB call_len cs_len (by rfl) g.z_len PySem.boot_len (ja_cons (je_name 0) ja_nil)) ja_nil)) (jg_name 4 sc__law_up_to.nd) (jss_cons (js_asg (je_ixN 0 (je_name 4)) (jg_tup rfl (jgs_cons (jg_name 5 sc__law_up_to.nd) (jgs_cons (jg_name 6 sc__law_up_to.nd) jgs_nil))))
      (jss_cons (js_setE 7 sc__law_up_to.nd (je_callB (call_min2 rfl) (cs_I2 fun _ _ _ => .int _) (by rfl) g.z_min PyProof.Rows.boot_min (ja_cons (je_name 1) (ja_cons (je_if (jt_cm c_lt (je_add (je_name 4) je_int) (je_callB call_len cs_len (by rfl) g.z_len PySem.boot_len (ja_cons (je_name 0) ja_nil))) (je_ix (je_ixN 0 (je_add (je_name 4) je_int)) je_int) (je_name 1)) ja_nil))))
      (jss_cons (js_setE 8 sc__law_up_to.nd (je_callB (call_max2 rfl) (cs_I2 fun _ _ _ => .int _) (by rfl) g.z_max PyProof.Rows.boot_max (ja_cons je_int (ja_cons (je_sub (je_name 7) (je_name 5)) ja_nil))))
      (jss_cons (js_setE 2 sc__law_up_to.nd (je_add (je_mul (je_name 2) (je_ixN 6 je_int)) (je_mul (je_mul (je_ixN 6 je_int) (je_name 8)) (je_name 3))))
      (jss_one (js_setE 3 sc__law_up_to.nd (je_mul (je_name 3) (je_ixN 6 je_int)))))))))
      (jss_one (js_retE (je_tup (ja_cons (je_name 2) (ja_cons (je_name 3) ja_nil))))))))) h
theorem w__law_short (g : G K mg base tb) (O__law_rate : FnOk P w K mg base (L2N.CX P w) 1 g.a__law_rate g.f__law_rate ["rates", "day"] (spOf K (opn tb) (sp__law_rate g.e))) (O__law_lowest : FnOk P w K mg base (L2N.CX P w) 1 g.a__law_lowest g.f__law_lowest ["part", "whole"] (spOf K (opn tb) (sp__law_lowest g.e))) {sp2 : PSpec} (hl : ∀ as Qr Qe, sp2 as Qr Qe → as.length = 3) (h : ∀ as Qr Qe, sp2 as Qr Qe → rd__law_short K g.e (enOf Qr Qe) (begin_ 7 as)) : FnOk P w K mg base (L2N.CX P w) 2 g.a__law_short g.f__law_short ["rates", "first", "behind"] (spOf K (opn tb) sp2) :=
  okDC g.F__law_short sc__law_short hl (fun cdv A outer s H E hc hr =>
    (jss_cons (js_setE 3 sc__law_short.nd je_int)
      (jss_cons (js_setE 4 sc__law_short.nd je_int)
      (jss_cons (js_for rfl (ji_rng2 (by rfl) g.z_range (ja_cons (je_name 1) (ja_cons (je_name 2) ja_nil))) (jg_name 5 sc__law_short.nd) (jss_cons (js_set 6 sc__law_short.nd (jr_call O__law_rate (Room.mono hr (by first | decide | omega)) (by rfl) g.g__law_rate g.F__law_rate.kp g.b__law_rate (jc_cons (je_name 0) (jc_cons (je_name 5) jc_nil))))
      (jss_one (js_asg (je_of (jr_call O__law_lowest (Room.mono hr (by first | decide | omega)) (by rfl) g.g__law_lowest g.F__law_lowest.kp g.b__law_lowest (jc_cons (je_add (je_mul (je_name 3) (je_ixN 6 je_int)) (je_mul (je_ixN 6 je_int) (je_name 4))) (jc_cons (je_mul (je_name 4) (je_ixN 6 je_int)) jc_nil)))) (jg_tup rfl (jgs_cons (jg_name 3 sc__law_short.nd) (jgs_cons (jg_name 4 sc__law_short.nd) jgs_nil)))))))
      (jss_one (js_retE (je_tup (ja_cons (je_name 3) (ja_cons (je_name 4) ja_nil))))))))) h
theorem w__law_due (g : G K mg base tb) (O__law_short : FnOk P w K mg base (L2N.CX P w) 2 g.a__law_short g.f__law_short ["rates", "first", "behind"] (spOf K (opn tb) (sp__law_short g.e))) (O__law_up_to : FnOk P w K mg base (L2N.CX P w) 1 g.a__law_up_to g.f__law_up_to ["rates", "day"] (spOf K (opn tb) (sp__law_up_to g.e))) (O__law_lowest : FnOk P w K mg base (L2N.CX P w) 1 g.a__law_lowest g.f__law_lowest ["part", "whole"] (spOf K (opn tb) (sp__law_lowest g.e))) {sp2 : PSpec} (hl : ∀ as Qr Qe, sp2 as Qr Qe → as.length = 4) (h : ∀ as Qr Qe, sp2 as Qr Qe → rd__law_due K g.e (enOf Qr Qe) (begin_ 8 as)) : FnOk P w K mg base (L2N.CX P w) 3 g.a__law_due g.f__law_due ["principal", "rates", "first", "behind"] (spOf K (opn tb) sp2) :=
  okDC g.F__law_due sc__law_due hl (fun cdv A outer s H E hc hr =>
    (jss_cons (js_if (jt_cm c_le (je_sub (je_name 3) (je_name 2)) je_int) (jss_one (js_asg (je_of (jr_call O__law_short (Room.mono hr (by first | decide | omega)) (by rfl) g.g__law_short g.F__law_short.kp g.b__law_short (jc_cons (je_name 1) (jc_cons (je_name 2) (jc_cons (je_name 3) jc_nil))))) (jg_tup rfl (jgs_cons (jg_name 4 sc__law_due.nd) (jgs_cons (jg_name 5 sc__law_due.nd) jgs_nil))))) (jss_cons (js_set 6 sc__law_due.nd (jr_call O__law_up_to (Room.mono hr (by first | decide | omega)) (by rfl) g.g__law_up_to g.F__law_up_to.kp g.b__law_up_to (jc_cons (je_name 1) (jc_cons (je_name 2) jc_nil))))
      (jss_cons (js_set 7 sc__law_due.nd (jr_call O__law_up_to (Room.mono hr (by first | decide | omega)) (by rfl) g.g__law_up_to g.F__law_up_to.kp g.b__law_up_to (jc_cons (je_name 1) (jc_cons (je_name 3) jc_nil))))
      (jss_cons (js_setE 4 sc__law_due.nd (je_sub (je_mul (je_ixN 7 je_int) (je_ixN 6 je_int)) (je_mul (je_ixN 6 je_int) (je_ixN 7 je_int))))
      (jss_one (js_setE 5 sc__law_due.nd (je_mul (je_ixN 6 je_int) (je_ixN 7 je_int))))))))
      (jss_one (js_ret (jr_call O__law_lowest (Room.mono hr (by first | decide | omega)) (by rfl) g.g__law_lowest g.F__law_lowest.kp g.b__law_lowest (jc_cons (je_mul (je_ixN 0 je_int) (je_name 4)) (jc_cons (je_mul (je_mul (je_ixN 0 je_int) (je_name 5)) je_int) jc_nil))))))) h
theorem w__law_is (g : G K mg base tb) {sp2 : PSpec} (hl : ∀ as Qr Qe, sp2 as Qr Qe → as.length = 2) (h : ∀ as Qr Qe, sp2 as Qr Qe → rd__law_is K g.e (enOf Qr Qe) (begin_ 3 as)) : FnOk P w K mg base (L2N.CX P w) 1 g.a__law_is g.f__law_is ["value", "due"] (spOf K (opn tb) sp2) :=
  okDC g.F__law_is sc__law_is hl (fun cdv A outer s H E hc hr =>
    (jss_cons (js_if (jw_pt (jw_or (jt_not (jt_truth (je_isi tk_tuple (by rfl) g.z_isinstance (by rfl) g.z_tuple PyProof.Rows.boot_tuple (je_name 0)))) (jw_or1 (jt_cm (c_ne (L2H.roomH_of hr)) (je_callB call_len cs_len (by rfl) g.z_len PySem.boot_len (ja_cons (je_name 0) ja_nil)) je_int)))) (jss_one (js_retE je_bool)) jss_nil)
      (jss_cons (js_for rfl (ji_seq (je_name 0)) (jg_name 2 sc__law_is.nd) (jss_one (js_if (jw_pt (jw_or (jt_not (jt_truth (je_isi tk_int (by rfl) g.z_isinstance (by rfl) g.z_int PyProof.Rows.boot_int (je_name 2)))) (jw_or1 (jt_truth (je_isi tk_bool (by rfl) g.z_isinstance (by rfl) g.z_bool PyProof.Rows.boot_bool (je_name 2)))))) (jss_one (js_retE je_bool)) jss_nil)))
      (jss_one (js_retE (je_and (je_cm (c_eq (L2H.roomH_of hr)) (je_ixN 0 je_int) (je_ixN 1 je_int)) (je_one (je_cm (c_eq (L2H.roomH_of hr)) (je_ixN 0 je_int) (je_ixN 1 je_int))))))))) h
theorem w__law_asked (g : G K mg base tb) (O_interest : FnOk P w K mg base (L2N.CX P w) 3 g.a_interest g.f_interest ["principal", "rates", "first", "behind"] (spOf K (opn tb) (sp_interest g.e))) (OX__law_told : FnX P w K mg base (L2N.CX P w) 1 g.a__law_told g.f__law_told ["error"] (spX K (opn tb) (spX__law_told g.e))) (O__law_due : FnOk P w K mg base (L2N.CX P w) 3 g.a__law_due g.f__law_due ["principal", "rates", "first", "behind"] (spOf K (opn tb) (sp__law_due g.e))) (O__law_is : FnOk P w K mg base (L2N.CX P w) 1 g.a__law_is g.f__law_is ["value", "due"] (spOf K (opn tb) (sp__law_is g.e))) {sp2 : PSpec} (hl : ∀ as Qr Qe, sp2 as Qr Qe → as.length = 4) (h : ∀ as Qr Qe, sp2 as Qr Qe → rd__law_asked K g.e (enOf Qr Qe) (begin_ 6 as)) : FnOk P w K mg base (L2N.CX P w) 4 g.a__law_asked g.f__law_asked ["principal", "rates", "first", "behind"] (spOf K (opn tb) sp2) :=
  okDC g.F__law_asked sc__law_asked hl (fun cdv A outer s H E hc hr =>
    (jss_cons (js_try 5 rfl rfl sc__law_asked.nd ⟨by rfl, by decide, .inl g.m_DocketError⟩ (fun pn xe => (jss_one (js_set 4 sc__law_asked.nd (jr_call O_interest (Room.mono hr (by first | decide | omega)) (by rfl) g.g_interest g.F_interest.kp g.b_interest (jc_cons (je_name 0) (jc_cons (je_name 1) (jc_cons (je_name 2) (jc_cons (je_name 3) jc_nil)))))))) (fun a oe cls pn hz hv => (jss_one (js_retE (je_and (je_cm c_lt (je_name 3) (je_name 2)) (je_one (je_cm (c_eq (rh_suite hr (Nat.le_refl _))) (je_of (jr_callX OX__law_told (rh_suite hr (by first | decide | omega)) hz hv rfl List.mem_cons_self (by rfl) g.g__law_told g.F__law_told.kp g.b__law_told (jc_exc 5 jc_nil))) je_str)))))))
      (jss_one (js_retE (je_and (je_cm c_ge (je_name 3) (je_name 2)) (je_one (je_of (jr_call O__law_is (Room.mono hr (by first | decide | omega)) (by rfl) g.g__law_is g.F__law_is.kp g.b__law_is (jc_cons (je_name 4) (jc_cons (je_of (jr_call O__law_due (Room.mono hr (by first | decide | omega)) (by rfl) g.g__law_due g.F__law_due.kp g.b__law_due (jc_cons (je_name 0) (jc_cons (je_name 1) (jc_cons (je_name 2) (jc_cons (je_name 3) jc_nil)))))) jc_nil)))))))))) h
theorem w__law_wrong (g : G K mg base tb) (O_is_rates : FnOk P w K mg base (L2N.CX P w) 5 g.a_is_rates g.f_is_rates ["value"] (spOf K (opn tb) (sp_is_rates g.e))) {sp2 : PSpec} (hl : ∀ as Qr Qe, sp2 as Qr Qe → as.length = 1) (h : ∀ as Qr Qe, sp2 as Qr Qe → rd__law_wrong K g.e (enOf Qr Qe) (begin_ 8 as)) : FnOk P w K mg base (L2N.CX P w) 6 g.a__law_wrong g.f__law_wrong ["rates"] (spOf K (opn tb) sp2) :=
  okDC g.F__law_wrong sc__law_wrong hl (fun cdv A outer s H E hc hr =>
    (jss_cons (js_asg (je_ixN 0 (je_neg je_int)) (jg_tup rfl (jgs_cons (jg_name 1 sc__law_wrong.nd) (jgs_cons (jg_name 2 sc__law_wrong.nd) jgs_nil))))
      (jss_cons (js_setE 3 sc__law_wrong.nd (je_slice (je_name 0) jo_none (jo_some (je_neg je_int))))
      (jss_cons (js_set 4 sc__law_wrong.nd (jr_lst (ja_cons (je_of (jr_lst1 (by rfl) g.z_list (je_name 0))) (ja_cons (je_tup ja_nil) (ja_cons je_none (ja_cons (je_add (je_name 0) (je_tup (ja_cons (je_ixN 0 (je_neg je_int)) ja_nil))) (ja_cons (je_tup (ja_cons (je_tup (ja_cons je_int (ja_cons (je_name 2) ja_nil))) ja_nil)) (ja_cons (je_add (je_name 3) (je_tup (ja_cons (je_tup (ja_cons (je_name 1) (ja_cons (je_tup (ja_cons je_int (ja_cons je_int ja_nil))) ja_nil))) ja_nil))) (ja_cons (je_add (je_name 3) (je_tup (ja_cons (je_tup (ja_cons (je_name 1) (ja_cons (je_tup (ja_cons je_int (ja_cons je_int ja_nil))) ja_nil))) ja_nil))) (ja_cons (je_add (je_name 3) (je_tup (ja_cons (je_tup (ja_cons (je_name 1) (ja_cons (je_tup (ja_cons je_int (ja_cons je_int ja_nil))) ja_nil))) ja_nil))) (ja_cons (je_add (je_name 3) (je_tup (ja_cons (je_tup (ja_cons (je_name 1) (ja_cons (je_tup (ja_cons (je_neg je_int) (ja_cons je_int ja_nil))) ja_nil))) ja_nil))) (ja_cons (je_add (je_name 3) (je_tup (ja_cons (je_of (jr_lst (ja_cons (je_name 1) (ja_cons (je_name 2) ja_nil)))) ja_nil))) (ja_cons (je_add (je_name 3) (je_tup (ja_cons (je_tup (ja_cons (je_name 1) (ja_cons (je_name 2) (ja_cons je_int ja_nil)))) ja_nil))) (ja_cons (je_tup (ja_cons (je_tup (ja_cons je_bool (ja_cons (je_name 2) ja_nil))) ja_nil)) (ja_cons (je_add (je_name 0) (je_tup (ja_cons (je_tup (ja_cons je_int (ja_cons (je_name 2) ja_nil))) ja_nil))) (ja_cons (je_add (je_name 3) (je_tup (ja_cons (je_tup (ja_cons (je_name 1) (ja_cons je_int ja_nil))) ja_nil))) (ja_cons (je_add (je_name 3) (je_tup (ja_cons (je_tup (ja_cons (je_name 1) (ja_cons (je_of (jr_lst (ja_cons je_int (ja_cons je_int ja_nil)))) ja_nil))) ja_nil))) (ja_cons (je_tup (ja_cons je_int (ja_cons (je_name 2) ja_nil))) ja_nil))))))))))))))))))
      (jss_cons (js_for rfl (ji_seq (je_name 4)) (jg_name 5 sc__law_wrong.nd) (jss_one (js_if (jt_cm c_isnot (je_of (jr_call O_is_rates (Room.mono hr (by first | decide | omega)) (by rfl) g.g_is_rates g.F_is_rates.kp g.b_is_rates (jc_cons (je_name 5) jc_nil))) je_bool) (jss_one (js_retE je_bool)) jss_nil)))
      (jss_cons (js_setE 6 sc__law_wrong.nd (je_callTy call_tuple_of cs_tuple (by rfl) g.z_tuple (by decide +kernel) (ja_cons (je_of (jr_lc [] [("k", 7)] rfl sc__law_wrong.nd (ji_rng1 (by rfl) g.z_range (ja_cons je_int ja_nil)) (blkOk_at ["rates", "day", "rate", "first", "wrong", "value", "many", "k"] (defScope s__law_wrong) (by decide +kernel)) (fun s H C cl fp => (jgw_name 7 sc__law_wrong.nd)) (fun s H C cl fp => jf_nil) (fun s H C cl fp => (je_tup (ja_cons (je_name 7) (ja_cons (je_name 2) ja_nil)))))) ja_nil)))
      (jss_one (js_retE (je_and (je_cm c_is (je_of (jr_call O_is_rates (Room.mono hr (by first | decide | omega)) (by rfl) g.g_is_rates g.F_is_rates.kp g.b_is_rates (jc_cons (je_slice (je_name 6) jo_none (jo_some je_int)) jc_nil))) je_bool) (je_one (je_cm c_is (je_of (jr_call O_is_rates (Room.mono hr (by first | decide | omega)) (by rfl) g.g_is_rates g.F_is_rates.kp g.b_is_rates (jc_cons (je_name 6) jc_nil))) je_bool))))))))))) h
theorem w_law (g : G K mg base tb) (O__law_open : FnOk P w K mg base (L2N.CX P w) 1 g.a__law_open g.f__law_open ["script"] (spOf K (opn tb) (sp__law_open g.e))) (O__law_draw : FnOk P w K mg base (L2N.CX P w) 2 g.a__law_draw g.f__law_draw ["draws", "size"] (spOf K (opn tb) (sp__law_draw g.e))) (O__law_rates : FnOk P w K mg base (L2N.CX P w) 3 g.a__law_rates g.f__law_rates ["draws"] (spOf K (opn tb) (sp__law_rates g.e))) (O_is_rates : FnOk P w K mg base (L2N.CX P w) 5 g.a_is_rates g.f_is_rates ["value"] (spOf K (opn tb) (sp_is_rates g.e))) (O__law_wrong : FnOk P w K mg base (L2N.CX P w) 6 g.a__law_wrong g.f__law_wrong ["rates"] (spOf K (opn tb) (sp__law_wrong g.e))) (O__law_wide : FnOk P w K mg base (L2N.CX P w) 3 g.a__law_wide g.f__law_wide ["draws", "size"] (spOf K (opn tb) (sp__law_wide g.e))) (O__law_lowest : FnOk P w K mg base (L2N.CX P w) 1 g.a__law_lowest g.f__law_lowest ["part", "whole"] (spOf K (opn tb) (sp__law_lowest g.e))) (O__law_asked : FnOk P w K mg base (L2N.CX P w) 4 g.a__law_asked g.f__law_asked ["principal", "rates", "first", "behind"] (spOf K (opn tb) (sp__law_asked g.e))) (O_interest : FnOk P w K mg base (L2N.CX P w) 3 g.a_interest g.f_interest ["principal", "rates", "first", "behind"] (spOf K (opn tb) (sp_interest g.e))) {sp2 : PSpec} (hl : ∀ as Qr Qe, sp2 as Qr Qe → as.length = 1) (h : ∀ as Qr Qe, sp2 as Qr Qe → rd_law K g.e (enOf Qr Qe) (begin_ 15 as)) : FnOk P w K mg base (L2N.CX P w) 7 g.a_law g.f_law ["script"] (spOf K (opn tb) sp2) :=
  okDC g.F_law sc_law hl (fun cdv A outer s H E hc hr =>
    (jss_cons (js_setOpn 1 sc_law.nd (jr_call O__law_open (Room.mono hr (by first | decide | omega)) (by rfl) g.g__law_open g.F__law_open.kp g.b__law_open (jc_fz 0 jc_nil)))
      (jss_cons (js_for rfl (ji_rng1 (by rfl) g.z_range (ja_cons (je_add je_int (je_of (jr_call O__law_draw (Room.mono hr (by first | decide | omega)) (by rfl) g.g__law_draw g.F__law_draw.kp g.b__law_draw (jc_src 1 (jc_cons je_int jc_nil))))) ja_nil)) (jg_name 2 sc_law.nd) (jss_cons (js_set 3 sc_law.nd (jr_call O__law_rates (Room.mono hr (by first | decide | omega)) (by rfl) g.g__law_rates g.F__law_rates.kp g.b__law_rates (jc_src 1 jc_nil)))
      (jss_cons (js_if (jw_pt (jw_or (jt_cm c_isnot (je_of (jr_call O_is_rates (Room.mono hr (by first | decide | omega)) (by rfl) g.g_is_rates g.F_is_rates.kp g.b_is_rates (jc_cons (je_name 3) jc_nil))) je_bool) (jw_or1 (jt_not (jt_truth (je_of (jr_call O__law_wrong (Room.mono hr (by first | decide | omega)) (by rfl) g.g__law_wrong g.F__law_wrong.kp g.b__law_wrong (jc_cons (je_name 3) jc_nil)))))))) (jss_one (js_retE je_bool)) jss_nil)
      (jss_cons (js_setE 4 sc_law.nd (je_add je_int (je_of (jr_call O__law_wide (Room.mono hr (by first | decide | omega)) (by rfl) g.g__law_wide g.F__law_wide.kp g.b__law_wide (jc_src 1 (jc_cons (je_ix (je_of (jr_lst (ja_cons je_int (ja_cons je_int (ja_cons (je_pow je_int je_int) ja_nil))))) (je_of (jr_call O__law_draw (Room.mono hr (by first | decide | omega)) (by rfl) g.g__law_draw g.F__law_draw.kp g.b__law_draw (jc_src 1 (jc_cons je_int jc_nil))))) jc_nil))))))
      (jss_cons (js_set 5 sc_law.nd (jr_call O__law_lowest (Room.mono hr (by first | decide | omega)) (by rfl) g.g__law_lowest g.F__law_lowest.kp g.b__law_lowest (jc_cons (je_of (jr_call O__law_wide (Room.mono hr (by first | decide | omega)) (by rfl) g.g__law_wide g.F__law_wide.kp g.b__law_wide (jc_src 1 (jc_cons (je_ix (je_of (jr_lst (ja_cons je_int (ja_cons (je_pow je_int je_int) (ja_cons (je_pow je_int je_int) ja_nil))))) (je_of (jr_call O__law_draw (Room.mono hr (by first | decide | omega)) (by rfl) g.g__law_draw g.F__law_draw.kp g.b__law_draw (jc_src 1 (jc_cons je_int jc_nil))))) jc_nil)))) (jc_cons (je_name 4) jc_nil))))
      (jss_cons (js_set 6 sc_law.nd (jr_sortI (by rfl) g.z_sorted (je_of (jr_lst (ja_cons (je_of (jr_call O__law_draw (Room.mono hr (by first | decide | omega)) (by rfl) g.g__law_draw g.F__law_draw.kp g.b__law_draw (jc_src 1 (jc_cons je_int jc_nil)))) (ja_cons (je_of (jr_call O__law_draw (Room.mono hr (by first | decide | omega)) (by rfl) g.g__law_draw g.F__law_draw.kp g.b__law_draw (jc_src 1 (jc_cons je_int jc_nil)))) (ja_cons (je_ix (je_ixN 3 (je_of (jr_call O__law_draw (Room.mono hr (by first | decide | omega)) (by rfl) g.g__law_draw g.F__law_draw.kp g.b__law_draw (jc_src 1 (jc_cons (je_callB call_len cs_len (by rfl) g.z_len PySem.boot_len (ja_cons (je_name 3) ja_nil)) jc_nil))))) je_int) ja_nil)))))))
      (jss_cons (js_setE 7 sc_law.nd (je_callB (call_min2 rfl) (cs_I2 fun _ _ _ => .int _) (by rfl) g.z_min PyProof.Rows.boot_min (ja_cons (je_sub je_int je_int) (ja_cons (je_of (jr_call O__law_draw (Room.mono hr (by first | decide | omega)) (by rfl) g.g__law_draw g.F__law_draw.kp g.b__law_draw (jc_src 1 (jc_cons je_int jc_nil)))) ja_nil))))
      (jss_cons (js_set 8 sc_law.nd (jr_lst (ja_cons (je_tup (ja_cons (je_ixN 6 je_int) (ja_cons (je_ixN 6 je_int) ja_nil))) (ja_cons (je_tup (ja_cons (je_ixN 6 je_int) (ja_cons (je_ixN 6 je_int) ja_nil))) (ja_cons (je_tup (ja_cons (je_ixN 6 je_int) (ja_cons (je_ixN 6 je_int) ja_nil))) (ja_cons (je_tup (ja_cons (je_name 7) (ja_cons (je_add (je_name 7) (je_of (jr_call O__law_draw (Room.mono hr (by first | decide | omega)) (by rfl) g.g__law_draw g.F__law_draw.kp g.b__law_draw (jc_src 1 (jc_cons je_int jc_nil))))) ja_nil))) (ja_cons (je_tup (ja_cons (je_name 7) (ja_cons (je_name 7) ja_nil))) (ja_cons (je_tup (ja_cons (je_ixN 6 je_int) (ja_cons (je_ixN 6 je_int) ja_nil))) (ja_cons (je_tup (ja_cons (je_add (je_name 7) je_int) (ja_cons (je_name 7) ja_nil))) (ja_cons (je_tup (ja_cons je_int (ja_cons je_int ja_nil))) ja_nil))))))))))
      (jss_cons (js_for rfl (ji_seq (je_name 8)) (jg_tup rfl (jgs_cons (jg_name 9 sc_law.nd) (jgs_cons (jg_name 10 sc_law.nd) jgs_nil))) (jss_one (js_if (jt_not (jt_truth (je_of (jr_call O__law_asked (Room.mono hr (by first | decide | omega)) (by rfl) g.g__law_asked g.F__law_asked.kp g.b__law_asked (jc_cons (je_name 5) (jc_cons (je_name 3) (jc_cons (je_name 9) (jc_cons (je_name 10) jc_nil)))))))) (jss_one (js_retE je_bool)) jss_nil)))
      (jss_cons (js_set 11 sc_law.nd (jr_call O__law_draw (Room.mono hr (by first | decide | omega)) (by rfl) g.g__law_draw g.F__law_draw.kp g.b__law_draw (jc_src 1 (jc_cons (je_callB call_len cs_len (by rfl) g.z_len PySem.boot_len (ja_cons (je_name 3) ja_nil)) jc_nil))))
      (jss_cons (js_setE 12 sc_law.nd (je_if (jt_cm c_lt (je_add (je_name 11) je_int) (je_callB call_len cs_len (by rfl) g.z_len PySem.boot_len (ja_cons (je_name 3) ja_nil))) (je_ix (je_ixN 3 (je_add (je_name 11) je_int)) je_int) je_int))
      (jss_one (js_if (jw_pt (jw_and (jt_cm c_lt (je_callB call_len cs_len (by rfl) g.z_len PySem.boot_len (ja_cons (je_name 3) ja_nil)) je_int) (jw_and1 (jt_cm c_lt (je_add (je_ix (je_ixN 3 (je_name 11)) je_int) je_int) (je_name 12))))) (jss_cons (js_setE 13 sc_law.nd (je_add (je_add (je_slice (je_name 3) jo_none (jo_some (je_add (je_name 11) je_int))) (je_tup (ja_cons (je_tup (ja_cons (je_add (je_ix (je_ixN 3 (je_name 11)) je_int) je_int) (ja_cons (je_ix (je_ixN 3 (je_name 11)) je_int) ja_nil))) ja_nil))) (je_slice (je_name 3) (jo_some (je_add (je_name 11) je_int)) jo_none)))
      (jss_cons (js_setE 14 sc_law.nd (je_callB (call_max2 rfl) (cs_I2 fun _ _ _ => .int _) (by rfl) g.z_max PyProof.Rows.boot_max (ja_cons (je_ixN 6 je_int) (ja_cons (je_name 7) ja_nil))))
      (jss_one (js_if (jt_cm (c_ne (L2H.roomH_of hr)) (je_of (jr_call O_interest (Room.mono hr (by first | decide | omega)) (by rfl) g.g_interest g.F_interest.kp g.b_interest (jc_cons (je_name 5) (jc_cons (je_name 13) (jc_cons (je_name 7) (jc_cons (je_name 14) jc_nil)))))) (je_of (jr_call O_interest (Room.mono hr (by first | decide | omega)) (by rfl) g.g_interest g.F_interest.kp g.b_interest (jc_cons (je_name 5) (jc_cons (je_name 3) (jc_cons (je_name 7) (jc_cons (je_name 14) jc_nil))))))) (jss_one (js_retE je_bool)) jss_nil)))) jss_nil)))))))))))))
      (jss_one (js_retE je_bool))))) h
end
end K48

set_option Elab.async false
set_option linter.all false
set_option maxRecDepth 100000
namespace K48
open PySem L2 PD
variable {K : PySem.W.Frag} {e : Ec}
theorem pf__law_open {l : List Ek} (X : XF K e l) : ∀ as Qr Qe, sp__law_open e as Qr Qe → rd__law_open K e (enOf Qr Qe) (begin_ 3 as) := by
  rintro as Qr Qe ⟨ns, rfl, hns, q⟩
  have hcut : (cutD (ns.map PyData.int) none (some 63)) = (ns.take 63).map PyData.int := by
    unfold cutD
    simp [HT.sIx]
  unfold rd__law_open
  refine seq_lc ((ns.take 63).map PyData.int) _ (fun d => match d with | .int i => some (.int (if i < 0 then -i else i)) | _ => none) (by simp; exact szl (by omega)) (fun d hd Y N hY hN => ?_) ?_ (by rw [← hcut]; exact fun _ h => h)
  · obtain ⟨i, _, rfl⟩ := List.mem_map.mp hd
    simp [qSeq, qIf, qRet, qSet, qAsg, qPar, qDrop, qNx, qRaise, qBk, qCt, qRetN, qAug, pER, pRE, pC, pName, pBin, pTest, pTru, strFit, truD, pAnd, pOr, pNot, pAndV, pOrV, pNotV, pIf, pChain, pNeg, pNil, pCons, pTup, pLst, pIxN, pCB, pCall, pcNil, pcCons, pcSrc, pcFz, pcExc, gtName, gtNil, gtCons, gtTup, gtTupX, gAdd, gMul, gI, gI0, gOrd, gIx, gLen, gInt, gI1, gI2, gGcd, slOf, enOf, begin_, seqAt, atMostOne, Sl.mut, pIsi, isD, isT, tyD, pLenN, pLst1, pLstRev, and_assoc, frzL, blkS, wipeS, toB, ptYes, qSetSrc, gEq, gNe, eqD, flatD, mixD, piSeq, piLst, piRng1, piRng2, piRng3, piFz, PD.gSub, PD.gDiv, PD.gMod, PD.gDivZ, PD.gModZ, PD.gLt, PD.gLe, PD.gGt, PD.gGe, PD.gPow, PD.gShr, PD.gXor, pSlice, pSliceFz, poNone, poSome, qPar3, gLeT, gTupC, pTupN, qSetIx, ownAt, setOwn, pSort, pDictIx, dVal, qSetOpn, qOpn, qPut, gIs, gIsNot, isN, pMt, gAppend, gPop, pChain3, piZip, piEnum, pSortI, pCat, pRep, pLstRg1, pLstRg2, pTupRg1, pInN, gIn, at_h0, at_h1, at_h2, at_h3, at_h4, at_h5, at_h6, at_h7, eqv_ii, eqv_ss, eqv_bb, eqv_is, eqv_si, eqv_nn, eqv_ni, eqv_in, eqv_bi, eqv_ib]
    exact hY _ _ rfl rfl
  · rw [fm_ints (fun i => if i < 0 then -i else i) _ _ fun _ => rfl]
    simp [qSeq, qIf, qRet, qSet, qAsg, qPar, qDrop, qNx, qRaise, qBk, qCt, qRetN, qAug, pER, pRE, pC, pName, pBin, pTest, pTru, strFit, truD, pAnd, pOr, pNot, pAndV, pOrV, pNotV, pIf, pChain, pNeg, pNil, pCons, pTup, pLst, pIxN, pCB, pCall, pcNil, pcCons, pcSrc, pcFz, pcExc, gtName, gtNil, gtCons, gtTup, gtTupX, gAdd, gMul, gI, gI0, gOrd, gIx, gLen, gInt, gI1, gI2, gGcd, slOf, enOf, begin_, seqAt, atMostOne, Sl.mut, pIsi, isD, isT, tyD, pLenN, pLst1, pLstRev, and_assoc, frzL, blkS, wipeS, toB, ptYes, qSetSrc, gEq, gNe, eqD, flatD, mixD, piSeq, piLst, piRng1, piRng2, piRng3, piFz, PD.gSub, PD.gDiv, PD.gMod, PD.gDivZ, PD.gModZ, PD.gLt, PD.gLe, PD.gGt, PD.gGe, PD.gPow, PD.gShr, PD.gXor, pSlice, pSliceFz, poNone, poSome, qPar3, gLeT, gTupC, pTupN, qSetIx, ownAt, setOwn, pSort, pDictIx, dVal, qSetOpn, qOpn, qPut, gIs, gIsNot, isN, pMt, gAppend, gPop, pChain3, piZip, piEnum, pSortI, pCat, pRep, pLstRg1, pLstRg2, pTupRg1, pInN, gIn, at_h0, at_h1, at_h2, at_h3, at_h4, at_h5, at_h6, at_h7, eqv_ii, eqv_ss, eqv_bb, eqv_is, eqv_si, eqv_nn, eqv_ni, eqv_in, eqv_bi, eqv_ib]
    refine ⟨szn 1, ?_, szn 3, ?_⟩
    · have := szl (n := 63) (by omega)
      omega
    · have z := q ((ns.take 63).map (fun i => if i < 0 then -i else i) ++ [0]) (by simp)
      simpa using z
theorem pf__law_mixed {l : List Ek} (X : XF K e l) : ∀ as Qr Qe, sp__law_mixed e as Qr Qe → rd__law_mixed K e (enOf Qr Qe) (begin_ 3 as) := by
  rintro as Qr Qe ⟨c, t, rfl, q⟩
  simp [rd__law_mixed, qSeq, qIf, qRet, qSet, qAsg, qPar, qDrop, qNx, qRaise, qBk, qCt, qRetN, qAug, pER, pRE, pC, pName, pBin, pTest, pTru, strFit, truD, pAnd, pOr, pNot, pAndV, pOrV, pNotV, pIf, pChain, pNeg, pNil, pCons, pTup, pLst, pIxN, pCB, pCall, pcNil, pcCons, pcSrc, pcFz, pcExc, gtName, gtNil, gtCons, gtTup, gtTupX, gAdd, gMul, gI, gI0, gOrd, gIx, gLen, gInt, gI1, gI2, gGcd, slOf, enOf, begin_, seqAt, atMostOne, Sl.mut, pIsi, isD, isT, tyD, pLenN, pLst1, pLstRev, and_assoc, frzL, blkS, wipeS, toB, ptYes, qSetSrc, gEq, gNe, eqD, flatD, mixD, piSeq, piLst, piRng1, piRng2, piRng3, piFz, PD.gSub, PD.gDiv, PD.gMod, PD.gDivZ, PD.gModZ, PD.gLt, PD.gLe, PD.gGt, PD.gGe, PD.gPow, PD.gShr, PD.gXor, pSlice, pSliceFz, poNone, poSome, qPar3, gLeT, gTupC, pTupN, qSetIx, ownAt, setOwn, pSort, pDictIx, dVal, qSetOpn, qOpn, qPut, gIs, gIsNot, isN, pMt, gAppend, gPop, pChain3, piZip, piEnum, pSortI, pCat, pRep, pLstRg1, pLstRg2, pTupRg1, pInN, gIn, at_h0, at_h1, at_h2, at_h3, at_h4, at_h5, at_h6, at_h7, eqv_ii, eqv_ss, eqv_bb, eqv_is, eqv_si, eqv_nn, eqv_ni, eqv_in, eqv_bi, eqv_ib]
  (repeat' refine And.intro ?_ ?_) <;> try (first | omega | exact powS (by decide) | exact wdS (by first | decide | omega) | exact mulS (.inr (by decide)) | exact mulS (.inl (by decide)) | exact szn _ | exact divS (by omega) (by omega) | decide)
  exact q _
theorem pf__law_draw {l : List Ek} (X : XF K e l) : ∀ as Qr Qe, sp__law_draw e as Qr Qe → rd__law_draw K e (enOf Qr Qe) (begin_ 6 as) := by
  rintro as Qr Qe ⟨b, rfl, b0, b1, q⟩
  simp [rd__law_draw, qSeq, qIf, qRet, qSet, qAsg, qPar, qDrop, qNx, qRaise, qBk, qCt, qRetN, qAug, pER, pRE, pC, pName, pBin, pTest, pTru, strFit, truD, pAnd, pOr, pNot, pAndV, pOrV, pNotV, pIf, pChain, pNeg, pNil, pCons, pTup, pLst, pIxN, pCB, pCall, pcNil, pcCons, pcSrc, pcFz, pcExc, gtName, gtNil, gtCons, gtTup, gtTupX, gAdd, gMul, gI, gI0, gOrd, gIx, gLen, gInt, gI1, gI2, gGcd, slOf, enOf, begin_, seqAt, atMostOne, Sl.mut, pIsi, isD, isT, tyD, pLenN, pLst1, pLstRev, and_assoc, frzL, blkS, wipeS, toB, ptYes, qSetSrc, gEq, gNe, eqD, flatD, mixD, piSeq, piLst, piRng1, piRng2, piRng3, piFz, PD.gSub, PD.gDiv, PD.gMod, PD.gDivZ, PD.gModZ, PD.gLt, PD.gLe, PD.gGt, PD.gGe, PD.gPow, PD.gShr, PD.gXor, pSlice, pSliceFz, poNone, poSome, qPar3, gLeT, gTupC, pTupN, qSetIx, ownAt, setOwn, pSort, pDictIx, dVal, qSetOpn, qOpn, qPut, gIs, gIsNot, isN, pMt, gAppend, gPop, pChain3, piZip, piEnum, pSortI, pCat, pRep, pLstRg1, pLstRg2, pTupRg1, pInN, gIn, at_h0, at_h1, at_h2, at_h3, at_h4, at_h5, at_h6, at_h7, eqv_ii, eqv_ss, eqv_bb, eqv_is, eqv_si, eqv_nn, eqv_ni, eqv_in, eqv_bi, eqv_ib, sp__law_mixed]
  intro t m cs ne
  have len : 0 < cs.length := List.length_pos_iff.mpr ne
  obtain ⟨c, hc⟩ := atI_ints (cs := cs) (i := t % cs.length) (Int.emod_nonneg _ (by omega)) (Int.emod_lt_of_pos _ (by omega))
  have dv : ∀ x : Int, CDivA x b := fun x => divOk b0 b1
  have fin : ∀ x : Int, CDivA x b ∧ 0 < b ∧ Qr (.v (.int (x % b))) := fun x => ⟨dv x, b0, q _ (Int.emod_nonneg _ (by omega)) (Int.emod_lt_of_pos _ b0)⟩
  split
  · refine ⟨len, _, hc, ?_⟩
    split
    · refine ⟨powS (by decide), ?_⟩
      show if _ then _ else _
      split
      · exact fin c
      · exact ⟨⟨c, rfl⟩, fin⟩
    · exact ⟨⟨c, rfl⟩, fin⟩
  · exact fin m

theorem pf__law_wide {l : List Ek} (X : XF K e l) : ∀ as Qr Qe, sp__law_wide e as Qr Qe → rd__law_wide K e (enOf Qr Qe) (begin_ 4 as) := by
  rintro as Qr Qe ⟨b, rfl, b0, q⟩
  unfold rd__law_wide
  refine seq_i fun k hk => ?_
  show k _
  subst hk
  refine seq_i fun k hk => ?_
  refine for_rng 4 (fun i ρ => ∃ (n : Int) (x : Sl), ρ = [.src, .v (.int b), .v (.int n), x]) ⟨by omega, by omega⟩ ⟨0, _, rfl⟩ ?_ ?_
  · rintro i ρ hi ⟨n, x, rfl⟩
    simp [qSeq, qIf, qRet, qSet, qAsg, qPar, qDrop, qNx, qRaise, qBk, qCt, qRetN, qAug, pER, pRE, pC, pName, pBin, pTest, pTru, strFit, truD, pAnd, pOr, pNot, pAndV, pOrV, pNotV, pIf, pChain, pNeg, pNil, pCons, pTup, pLst, pIxN, pCB, pCall, pcNil, pcCons, pcSrc, pcFz, pcExc, gtName, gtNil, gtCons, gtTup, gtTupX, gAdd, gMul, gI, gI0, gOrd, gIx, gLen, gInt, gI1, gI2, gGcd, slOf, enOf, begin_, seqAt, atMostOne, Sl.mut, pIsi, isD, isT, tyD, pLenN, pLst1, pLstRev, and_assoc, frzL, blkS, wipeS, toB, ptYes, qSetSrc, gEq, gNe, eqD, flatD, mixD, piSeq, piLst, piRng1, piRng2, piRng3, piFz, PD.gSub, PD.gDiv, PD.gMod, PD.gDivZ, PD.gModZ, PD.gLt, PD.gLe, PD.gGt, PD.gGe, PD.gPow, PD.gShr, PD.gXor, pSlice, pSliceFz, poNone, poSome, qPar3, gLeT, gTupC, pTupN, qSetIx, ownAt, setOwn, pSort, pDictIx, dVal, qSetOpn, qOpn, qPut, gIs, gIsNot, isN, pMt, gAppend, gPop, pChain3, piZip, piEnum, pSortI, pCat, pRep, pLstRg1, pLstRg2, pTupRg1, pInN, gIn, at_h0, at_h1, at_h2, at_h3, at_h4, at_h5, at_h6, at_h7, eqv_ii, eqv_ss, eqv_bb, eqv_is, eqv_si, eqv_nn, eqv_ni, eqv_in, eqv_bi, eqv_ib, sp__law_draw]
    (repeat' refine And.intro ?_ ?_) <;> try (first | omega | exact powS (by decide) | exact wdS (by first | decide | omega) | exact mulS (.inr (by decide)) | exact mulS (.inl (by decide)) | exact szn _ | exact divS (by omega) (by omega) | decide)
  · rintro ρ ⟨n, x, rfl⟩
    show k _
    subst hk
    simp [qSeq, qIf, qRet, qSet, qAsg, qPar, qDrop, qNx, qRaise, qBk, qCt, qRetN, qAug, pER, pRE, pC, pName, pBin, pTest, pTru, strFit, truD, pAnd, pOr, pNot, pAndV, pOrV, pNotV, pIf, pChain, pNeg, pNil, pCons, pTup, pLst, pIxN, pCB, pCall, pcNil, pcCons, pcSrc, pcFz, pcExc, gtName, gtNil, gtCons, gtTup, gtTupX, gAdd, gMul, gI, gI0, gOrd, gIx, gLen, gInt, gI1, gI2, gGcd, slOf, enOf, begin_, seqAt, atMostOne, Sl.mut, pIsi, isD, isT, tyD, pLenN, pLst1, pLstRev, and_assoc, frzL, blkS, wipeS, toB, ptYes, qSetSrc, gEq, gNe, eqD, flatD, mixD, piSeq, piLst, piRng1, piRng2, piRng3, piFz, PD.gSub, PD.gDiv, PD.gMod, PD.gDivZ, PD.gModZ, PD.gLt, PD.gLe, PD.gGt, PD.gGe, PD.gPow, PD.gShr, PD.gXor, pSlice, pSliceFz, poNone, poSome, qPar3, gLeT, gTupC, pTupN, qSetIx, ownAt, setOwn, pSort, pDictIx, dVal, qSetOpn, qOpn, qPut, gIs, gIsNot, isN, pMt, gAppend, gPop, pChain3, piZip, piEnum, pSortI, pCat, pRep, pLstRg1, pLstRg2, pTupRg1, pInN, gIn, at_h0, at_h1, at_h2, at_h3, at_h4, at_h5, at_h6, at_h7, eqv_ii, eqv_ss, eqv_bb, eqv_is, eqv_si, eqv_nn, eqv_ni, eqv_in, eqv_bi, eqv_ib]
    exact ⟨b0, q _ (Int.emod_nonneg _ (by omega)) (Int.emod_lt_of_pos _ b0)⟩

theorem pfX__law_told (X : XF K e [.O, .M, .N, .R, .T]) : ∀ a c as Qr Qe, spX__law_told e a c as Qr Qe → rdX__law_told K e a c (enOf Qr Qe) (begin_ 5 as) := by
  rintro a c as Qr Qe ⟨k, rfl, rfl, q⟩
  have km : k ∈ [Ek.O, .M, .N, .R, .T] := by cases k <;> simp
  have hx := X.exc k km
  have hO : PySem.W.kitOne K (.ref (e.at k)) (.ref e.OutOfRange) = some (decide (k = Ek.O)) := X.kit k km .O (by simp)
  have hM : PySem.W.kitOne K (.ref (e.at k)) (.ref e.Malformed) = some (decide (k = Ek.M)) := X.kit k km .M (by simp)
  have hN : PySem.W.kitOne K (.ref (e.at k)) (.ref e.NotThere) = some (decide (k = Ek.N)) := X.kit k km .N (by simp)
  have hR : PySem.W.kitOne K (.ref (e.at k)) (.ref e.Refused) = some (decide (k = Ek.R)) := X.kit k km .R (by simp)
  have hT : PySem.W.kitOne K (.ref (e.at k)) (.ref e.TooMuch) = some (decide (k = Ek.T)) := X.kit k km .T (by simp)
  have hV := X.kitV k km
  obtain ⟨bO, eO⟩ : ∃ b, b = decide (k = Ek.O) := ⟨_, rfl⟩
  rw [← eO] at hO
  obtain ⟨bM, eM⟩ : ∃ b, b = decide (k = Ek.M) := ⟨_, rfl⟩
  rw [← eM] at hM
  obtain ⟨bN, eN⟩ : ∃ b, b = decide (k = Ek.N) := ⟨_, rfl⟩
  rw [← eN] at hN
  obtain ⟨bR, eR⟩ : ∃ b, b = decide (k = Ek.R) := ⟨_, rfl⟩
  rw [← eR] at hR
  obtain ⟨bT, eT⟩ : ∃ b, b = decide (k = Ek.T) := ⟨_, rfl⟩
  rw [← eT] at hT
  have s2 : 2 ≤ sizeLine := szn 2
  have s5 : 5 ≤ sizeLine := szn 5
  unfold rdX__law_told
  refine seq_i fun k1 hk1 => ?_
  simp [qSeq, qIf, qRet, qSet, qAsg, qPar, qDrop, qNx, qRaise, qBk, qCt, qRetN, qAug, pER, pRE, pC, pName, pBin, pTest, pTru, strFit, truD, pAnd, pOr, pNot, pAndV, pOrV, pNotV, pIf, pChain, pNeg, pNil, pCons, pTup, pLst, pIxN, pCB, pCall, pcNil, pcCons, pcSrc, pcFz, pcExc, gtName, gtNil, gtCons, gtTup, gtTupX, gAdd, gMul, gI, gI0, gOrd, gIx, gLen, gInt, gI1, gI2, gGcd, slOf, enOf, begin_, seqAt, atMostOne, Sl.mut, pIsi, isD, isT, tyD, pLenN, pLst1, pLstRev, and_assoc, frzL, blkS, wipeS, toB, ptYes, qSetSrc, gEq, gNe, eqD, flatD, mixD, piSeq, piLst, piRng1, piRng2, piRng3, piFz, PD.gSub, PD.gDiv, PD.gMod, PD.gDivZ, PD.gModZ, PD.gLt, PD.gLe, PD.gGt, PD.gGe, PD.gPow, PD.gShr, PD.gXor, pSlice, pSliceFz, poNone, poSome, qPar3, gLeT, gTupC, pTupN, qSetIx, ownAt, setOwn, pSort, pDictIx, dVal, qSetOpn, qOpn, qPut, gIs, gIsNot, isN, pMt, gAppend, gPop, pChain3, piZip, piEnum, pSortI, pCat, pRep, pLstRg1, pLstRg2, pTupRg1, pInN, gIn, at_h0, at_h1, at_h2, at_h3, at_h4, at_h5, at_h6, at_h7, eqv_ii, eqv_ss, eqv_bb, eqv_is, eqv_si, eqv_nn, eqv_ni, eqv_in, eqv_bi, eqv_ib, isE hx hO, isE hx hM, isE hx hN, isE hx hR, isE hx hT, s2, s5]
  subst hk1
  refine seq_lc [.tuple [.str "OutOfRange", .bool bO], .tuple [.str "Malformed", .bool bM], .tuple [.str "NotThere", .bool bN], .tuple [.str "Refused", .bool bR], .tuple [.str "TooMuch", .bool bT]] _ (fun d => match d with | .tuple [x, .bool b] => if b then some x else none | _ => none) (szl (by simp)) (fun d hd Y N hY hN => ?_) ?_
  · simp only [List.mem_cons, List.not_mem_nil, or_false] at hd
    rcases hd with rfl | rfl | rfl | rfl | rfl
    · cases bO
      · simp [qSeq, qIf, qRet, qSet, qAsg, qPar, qDrop, qNx, qRaise, qBk, qCt, qRetN, qAug, pER, pRE, pC, pName, pBin, pTest, pTru, strFit, truD, pAnd, pOr, pNot, pAndV, pOrV, pNotV, pIf, pChain, pNeg, pNil, pCons, pTup, pLst, pIxN, pCB, pCall, pcNil, pcCons, pcSrc, pcFz, pcExc, gtName, gtNil, gtCons, gtTup, gtTupX, gAdd, gMul, gI, gI0, gOrd, gIx, gLen, gInt, gI1, gI2, gGcd, slOf, enOf, begin_, seqAt, atMostOne, Sl.mut, pIsi, isD, isT, tyD, pLenN, pLst1, pLstRev, and_assoc, frzL, blkS, wipeS, toB, ptYes, qSetSrc, gEq, gNe, eqD, flatD, mixD, piSeq, piLst, piRng1, piRng2, piRng3, piFz, PD.gSub, PD.gDiv, PD.gMod, PD.gDivZ, PD.gModZ, PD.gLt, PD.gLe, PD.gGt, PD.gGe, PD.gPow, PD.gShr, PD.gXor, pSlice, pSliceFz, poNone, poSome, qPar3, gLeT, gTupC, pTupN, qSetIx, ownAt, setOwn, pSort, pDictIx, dVal, qSetOpn, qOpn, qPut, gIs, gIsNot, isN, pMt, gAppend, gPop, pChain3, piZip, piEnum, pSortI, pCat, pRep, pLstRg1, pLstRg2, pTupRg1, pInN, gIn, at_h0, at_h1, at_h2, at_h3, at_h4, at_h5, at_h6, at_h7, eqv_ii, eqv_ss, eqv_bb, eqv_is, eqv_si, eqv_nn, eqv_ni, eqv_in, eqv_bi, eqv_ib]
        exact hN _ rfl rfl
      · simp [qSeq, qIf, qRet, qSet, qAsg, qPar, qDrop, qNx, qRaise, qBk, qCt, qRetN, qAug, pER, pRE, pC, pName, pBin, pTest, pTru, strFit, truD, pAnd, pOr, pNot, pAndV, pOrV, pNotV, pIf, pChain, pNeg, pNil, pCons, pTup, pLst, pIxN, pCB, pCall, pcNil, pcCons, pcSrc, pcFz, pcExc, gtName, gtNil, gtCons, gtTup, gtTupX, gAdd, gMul, gI, gI0, gOrd, gIx, gLen, gInt, gI1, gI2, gGcd, slOf, enOf, begin_, seqAt, atMostOne, Sl.mut, pIsi, isD, isT, tyD, pLenN, pLst1, pLstRev, and_assoc, frzL, blkS, wipeS, toB, ptYes, qSetSrc, gEq, gNe, eqD, flatD, mixD, piSeq, piLst, piRng1, piRng2, piRng3, piFz, PD.gSub, PD.gDiv, PD.gMod, PD.gDivZ, PD.gModZ, PD.gLt, PD.gLe, PD.gGt, PD.gGe, PD.gPow, PD.gShr, PD.gXor, pSlice, pSliceFz, poNone, poSome, qPar3, gLeT, gTupC, pTupN, qSetIx, ownAt, setOwn, pSort, pDictIx, dVal, qSetOpn, qOpn, qPut, gIs, gIsNot, isN, pMt, gAppend, gPop, pChain3, piZip, piEnum, pSortI, pCat, pRep, pLstRg1, pLstRg2, pTupRg1, pInN, gIn, at_h0, at_h1, at_h2, at_h3, at_h4, at_h5, at_h6, at_h7, eqv_ii, eqv_ss, eqv_bb, eqv_is, eqv_si, eqv_nn, eqv_ni, eqv_in, eqv_bi, eqv_ib]
        exact hY _ _ rfl rfl
    · cases bM
      · simp [qSeq, qIf, qRet, qSet, qAsg, qPar, qDrop, qNx, qRaise, qBk, qCt, qRetN, qAug, pER, pRE, pC, pName, pBin, pTest, pTru, strFit, truD, pAnd, pOr, pNot, pAndV, pOrV, pNotV, pIf, pChain, pNeg, pNil, pCons, pTup, pLst, pIxN, pCB, pCall, pcNil, pcCons, pcSrc, pcFz, pcExc, gtName, gtNil, gtCons, gtTup, gtTupX, gAdd, gMul, gI, gI0, gOrd, gIx, gLen, gInt, gI1, gI2, gGcd, slOf, enOf, begin_, seqAt, atMostOne, Sl.mut, pIsi, isD, isT, tyD, pLenN, pLst1, pLstRev, and_assoc, frzL, blkS, wipeS, toB, ptYes, qSetSrc, gEq, gNe, eqD, flatD, mixD, piSeq, piLst, piRng1, piRng2, piRng3, piFz, PD.gSub, PD.gDiv, PD.gMod, PD.gDivZ, PD.gModZ, PD.gLt, PD.gLe, PD.gGt, PD.gGe, PD.gPow, PD.gShr, PD.gXor, pSlice, pSliceFz, poNone, poSome, qPar3, gLeT, gTupC, pTupN, qSetIx, ownAt, setOwn, pSort, pDictIx, dVal, qSetOpn, qOpn, qPut, gIs, gIsNot, isN, pMt, gAppend, gPop, pChain3, piZip, piEnum, pSortI, pCat, pRep, pLstRg1, pLstRg2, pTupRg1, pInN, gIn, at_h0, at_h1, at_h2, at_h3, at_h4, at_h5, at_h6, at_h7, eqv_ii, eqv_ss, eqv_bb, eqv_is, eqv_si, eqv_nn, eqv_ni, eqv_in, eqv_bi, eqv_ib]
        exact hN _ rfl rfl
      · simp [qSeq, qIf, qRet, qSet, qAsg, qPar, qDrop, qNx, qRaise, qBk, qCt, qRetN, qAug, pER, pRE, pC, pName, pBin, pTest, pTru, strFit, truD, pAnd, pOr, pNot, pAndV, pOrV, pNotV, pIf, pChain, pNeg, pNil, pCons, pTup, pLst, pIxN, pCB, pCall, pcNil, pcCons, pcSrc, pcFz, pcExc, gtName, gtNil, gtCons, gtTup, gtTupX, gAdd, gMul, gI, gI0, gOrd, gIx, gLen, gInt, gI1, gI2, gGcd, slOf, enOf, begin_, seqAt, atMostOne, Sl.mut, pIsi, isD, isT, tyD, pLenN, pLst1, pLstRev, and_assoc, frzL, blkS, wipeS, toB, ptYes, qSetSrc, gEq, gNe, eqD, flatD, mixD, piSeq, piLst, piRng1, piRng2, piRng3, piFz, PD.gSub, PD.gDiv, PD.gMod, PD.gDivZ, PD.gModZ, PD.gLt, PD.gLe, PD.gGt, PD.gGe, PD.gPow, PD.gShr, PD.gXor, pSlice, pSliceFz, poNone, poSome, qPar3, gLeT, gTupC, pTupN, qSetIx, ownAt, setOwn, pSort, pDictIx, dVal, qSetOpn, qOpn, qPut, gIs, gIsNot, isN, pMt, gAppend, gPop, pChain3, piZip, piEnum, pSortI, pCat, pRep, pLstRg1, pLstRg2, pTupRg1, pInN, gIn, at_h0, at_h1, at_h2, at_h3, at_h4, at_h5, at_h6, at_h7, eqv_ii, eqv_ss, eqv_bb, eqv_is, eqv_si, eqv_nn, eqv_ni, eqv_in, eqv_bi, eqv_ib]
        exact hY _ _ rfl rfl
    · cases bN
      · simp [qSeq, qIf, qRet, qSet, qAsg, qPar, qDrop, qNx, qRaise, qBk, qCt, qRetN, qAug, pER, pRE, pC, pName, pBin, pTest, pTru, strFit, truD, pAnd, pOr, pNot, pAndV, pOrV, pNotV, pIf, pChain, pNeg, pNil, pCons, pTup, pLst, pIxN, pCB, pCall, pcNil, pcCons, pcSrc, pcFz, pcExc, gtName, gtNil, gtCons, gtTup, gtTupX, gAdd, gMul, gI, gI0, gOrd, gIx, gLen, gInt, gI1, gI2, gGcd, slOf, enOf, begin_, seqAt, atMostOne, Sl.mut, pIsi, isD, isT, tyD, pLenN, pLst1, pLstRev, and_assoc, frzL, blkS, wipeS, toB, ptYes, qSetSrc, gEq, gNe, eqD, flatD, mixD, piSeq, piLst, piRng1, piRng2, piRng3, piFz, PD.gSub, PD.gDiv, PD.gMod, PD.gDivZ, PD.gModZ, PD.gLt, PD.gLe, PD.gGt, PD.gGe, PD.gPow, PD.gShr, PD.gXor, pSlice, pSliceFz, poNone, poSome, qPar3, gLeT, gTupC, pTupN, qSetIx, ownAt, setOwn, pSort, pDictIx, dVal, qSetOpn, qOpn, qPut, gIs, gIsNot, isN, pMt, gAppend, gPop, pChain3, piZip, piEnum, pSortI, pCat, pRep, pLstRg1, pLstRg2, pTupRg1, pInN, gIn, at_h0, at_h1, at_h2, at_h3, at_h4, at_h5, at_h6, at_h7, eqv_ii, eqv_ss, eqv_bb, eqv_is, eqv_si, eqv_nn, eqv_ni, eqv_in, eqv_bi, eqv_ib]
        exact hN _ rfl rfl
      · simp [qSeq, qIf, qRet, qSet, qAsg, qPar, qDrop, qNx, qRaise, qBk, qCt, qRetN, qAug, pER, pRE, pC, pName, pBin, pTest, pTru, strFit, truD, pAnd, pOr, pNot, pAndV, pOrV, pNotV, pIf, pChain, pNeg, pNil, pCons, pTup, pLst, pIxN, pCB, pCall, pcNil, pcCons, pcSrc, pcFz, pcExc, gtName, gtNil, gtCons, gtTup, gtTupX, gAdd, gMul, gI, gI0, gOrd, gIx, gLen, gInt, gI1, gI2, gGcd, slOf, enOf, begin_, seqAt, atMostOne, Sl.mut, pIsi, isD, isT, tyD, pLenN, pLst1, pLstRev, and_assoc, frzL, blkS, wipeS, toB, ptYes, qSetSrc, gEq, gNe, eqD, flatD, mixD, piSeq, piLst, piRng1, piRng2, piRng3, piFz, PD.gSub, PD.gDiv, PD.gMod, PD.gDivZ, PD.gModZ, PD.gLt, PD.gLe, PD.gGt, PD.gGe, PD.gPow, PD.gShr, PD.gXor, pSlice, pSliceFz, poNone, poSome, qPar3, gLeT, gTupC, pTupN, qSetIx, ownAt, setOwn, pSort, pDictIx, dVal, qSetOpn, qOpn, qPut, gIs, gIsNot, isN, pMt, gAppend, gPop, pChain3, piZip, piEnum, pSortI, pCat, pRep, pLstRg1, pLstRg2, pTupRg1, pInN, gIn, at_h0, at_h1, at_h2, at_h3, at_h4, at_h5, at_h6, at_h7, eqv_ii, eqv_ss, eqv_bb, eqv_is, eqv_si, eqv_nn, eqv_ni, eqv_in, eqv_bi, eqv_ib]
        exact hY _ _ rfl rfl
    · cases bR
      · simp [qSeq, qIf, qRet, qSet, qAsg, qPar, qDrop, qNx, qRaise, qBk, qCt, qRetN, qAug, pER, pRE, pC, pName, pBin, pTest, pTru, strFit, truD, pAnd, pOr, pNot, pAndV, pOrV, pNotV, pIf, pChain, pNeg, pNil, pCons, pTup, pLst, pIxN, pCB, pCall, pcNil, pcCons, pcSrc, pcFz, pcExc, gtName, gtNil, gtCons, gtTup, gtTupX, gAdd, gMul, gI, gI0, gOrd, gIx, gLen, gInt, gI1, gI2, gGcd, slOf, enOf, begin_, seqAt, atMostOne, Sl.mut, pIsi, isD, isT, tyD, pLenN, pLst1, pLstRev, and_assoc, frzL, blkS, wipeS, toB, ptYes, qSetSrc, gEq, gNe, eqD, flatD, mixD, piSeq, piLst, piRng1, piRng2, piRng3, piFz, PD.gSub, PD.gDiv, PD.gMod, PD.gDivZ, PD.gModZ, PD.gLt, PD.gLe, PD.gGt, PD.gGe, PD.gPow, PD.gShr, PD.gXor, pSlice, pSliceFz, poNone, poSome, qPar3, gLeT, gTupC, pTupN, qSetIx, ownAt, setOwn, pSort, pDictIx, dVal, qSetOpn, qOpn, qPut, gIs, gIsNot, isN, pMt, gAppend, gPop, pChain3, piZip, piEnum, pSortI, pCat, pRep, pLstRg1, pLstRg2, pTupRg1, pInN, gIn, at_h0, at_h1, at_h2, at_h3, at_h4, at_h5, at_h6, at_h7, eqv_ii, eqv_ss, eqv_bb, eqv_is, eqv_si, eqv_nn, eqv_ni, eqv_in, eqv_bi, eqv_ib]
        exact hN _ rfl rfl
      · simp [qSeq, qIf, qRet, qSet, qAsg, qPar, qDrop, qNx, qRaise, qBk, qCt, qRetN, qAug, pER, pRE, pC, pName, pBin, pTest, pTru, strFit, truD, pAnd, pOr, pNot, pAndV, pOrV, pNotV, pIf, pChain, pNeg, pNil, pCons, pTup, pLst, pIxN, pCB, pCall, pcNil, pcCons, pcSrc, pcFz, pcExc, gtName, gtNil, gtCons, gtTup, gtTupX, gAdd, gMul, gI, gI0, gOrd, gIx, gLen, gInt, gI1, gI2, gGcd, slOf, enOf, begin_, seqAt, atMostOne, Sl.mut, pIsi, isD, isT, tyD, pLenN, pLst1, pLstRev, and_assoc, frzL, blkS, wipeS, toB, ptYes, qSetSrc, gEq, gNe, eqD, flatD, mixD, piSeq, piLst, piRng1, piRng2, piRng3, piFz, PD.gSub, PD.gDiv, PD.gMod, PD.gDivZ, PD.gModZ, PD.gLt, PD.gLe, PD.gGt, PD.gGe, PD.gPow, PD.gShr, PD.gXor, pSlice, pSliceFz, poNone, poSome, qPar3, gLeT, gTupC, pTupN, qSetIx, ownAt, setOwn, pSort, pDictIx, dVal, qSetOpn, qOpn, qPut, gIs, gIsNot, isN, pMt, gAppend, gPop, pChain3, piZip, piEnum, pSortI, pCat, pRep, pLstRg1, pLstRg2, pTupRg1, pInN, gIn, at_h0, at_h1, at_h2, at_h3, at_h4, at_h5, at_h6, at_h7, eqv_ii, eqv_ss, eqv_bb, eqv_is, eqv_si, eqv_nn, eqv_ni, eqv_in, eqv_bi, eqv_ib]
        exact hY _ _ rfl rfl
    · cases bT
      · simp [qSeq, qIf, qRet, qSet, qAsg, qPar, qDrop, qNx, qRaise, qBk, qCt, qRetN, qAug, pER, pRE, pC, pName, pBin, pTest, pTru, strFit, truD, pAnd, pOr, pNot, pAndV, pOrV, pNotV, pIf, pChain, pNeg, pNil, pCons, pTup, pLst, pIxN, pCB, pCall, pcNil, pcCons, pcSrc, pcFz, pcExc, gtName, gtNil, gtCons, gtTup, gtTupX, gAdd, gMul, gI, gI0, gOrd, gIx, gLen, gInt, gI1, gI2, gGcd, slOf, enOf, begin_, seqAt, atMostOne, Sl.mut, pIsi, isD, isT, tyD, pLenN, pLst1, pLstRev, and_assoc, frzL, blkS, wipeS, toB, ptYes, qSetSrc, gEq, gNe, eqD, flatD, mixD, piSeq, piLst, piRng1, piRng2, piRng3, piFz, PD.gSub, PD.gDiv, PD.gMod, PD.gDivZ, PD.gModZ, PD.gLt, PD.gLe, PD.gGt, PD.gGe, PD.gPow, PD.gShr, PD.gXor, pSlice, pSliceFz, poNone, poSome, qPar3, gLeT, gTupC, pTupN, qSetIx, ownAt, setOwn, pSort, pDictIx, dVal, qSetOpn, qOpn, qPut, gIs, gIsNot, isN, pMt, gAppend, gPop, pChain3, piZip, piEnum, pSortI, pCat, pRep, pLstRg1, pLstRg2, pTupRg1, pInN, gIn, at_h0, at_h1, at_h2, at_h3, at_h4, at_h5, at_h6, at_h7, eqv_ii, eqv_ss, eqv_bb, eqv_is, eqv_si, eqv_nn, eqv_ni, eqv_in, eqv_bi, eqv_ib]
        exact hN _ rfl rfl
      · simp [qSeq, qIf, qRet, qSet, qAsg, qPar, qDrop, qNx, qRaise, qBk, qCt, qRetN, qAug, pER, pRE, pC, pName, pBin, pTest, pTru, strFit, truD, pAnd, pOr, pNot, pAndV, pOrV, pNotV, pIf, pChain, pNeg, pNil, pCons, pTup, pLst, pIxN, pCB, pCall, pcNil, pcCons, pcSrc, pcFz, pcExc, gtName, gtNil, gtCons, gtTup, gtTupX, gAdd, gMul, gI, gI0, gOrd, gIx, gLen, gInt, gI1, gI2, gGcd, slOf, enOf, begin_, seqAt, atMostOne, Sl.mut, pIsi, isD, isT, tyD, pLenN, pLst1, pLstRev, and_assoc, frzL, blkS, wipeS, toB, ptYes, qSetSrc, gEq, gNe, eqD, flatD, mixD, piSeq, piLst, piRng1, piRng2, piRng3, piFz, PD.gSub, PD.gDiv, PD.gMod, PD.gDivZ, PD.gModZ, PD.gLt, PD.gLe, PD.gGt, PD.gGe, PD.gPow, PD.gShr, PD.gXor, pSlice, pSliceFz, poNone, poSome, qPar3, gLeT, gTupC, pTupN, qSetIx, ownAt, setOwn, pSort, pDictIx, dVal, qSetOpn, qOpn, qPut, gIs, gIsNot, isN, pMt, gAppend, gPop, pChain3, piZip, piEnum, pSortI, pCat, pRep, pLstRg1, pLstRg2, pTupRg1, pInN, gIn, at_h0, at_h1, at_h2, at_h3, at_h4, at_h5, at_h6, at_h7, eqv_ii, eqv_ss, eqv_bb, eqv_is, eqv_si, eqv_nn, eqv_ni, eqv_in, eqv_bi, eqv_ib]
        exact hY _ _ rfl rfl
  · subst eO eM eN eR eT
    cases k <;> simp [qSeq, qIf, qRet, qSet, qAsg, qPar, qDrop, qNx, qRaise, qBk, qCt, qRetN, qAug, pER, pRE, pC, pName, pBin, pTest, pTru, strFit, truD, pAnd, pOr, pNot, pAndV, pOrV, pNotV, pIf, pChain, pNeg, pNil, pCons, pTup, pLst, pIxN, pCB, pCall, pcNil, pcCons, pcSrc, pcFz, pcExc, gtName, gtNil, gtCons, gtTup, gtTupX, gAdd, gMul, gI, gI0, gOrd, gIx, gLen, gInt, gI1, gI2, gGcd, slOf, enOf, begin_, seqAt, atMostOne, Sl.mut, pIsi, isD, isT, tyD, pLenN, pLst1, pLstRev, and_assoc, frzL, blkS, wipeS, toB, ptYes, qSetSrc, gEq, gNe, eqD, flatD, mixD, piSeq, piLst, piRng1, piRng2, piRng3, piFz, PD.gSub, PD.gDiv, PD.gMod, PD.gDivZ, PD.gModZ, PD.gLt, PD.gLe, PD.gGt, PD.gGe, PD.gPow, PD.gShr, PD.gXor, pSlice, pSliceFz, poNone, poSome, qPar3, gLeT, gTupC, pTupN, qSetIx, ownAt, setOwn, pSort, pDictIx, dVal, qSetOpn, qOpn, qPut, gIs, gIsNot, isN, pMt, gAppend, gPop, pChain3, piZip, piEnum, pSortI, pCat, pRep, pLstRg1, pLstRg2, pTupRg1, pInN, gIn, at_h0, at_h1, at_h2, at_h3, at_h4, at_h5, at_h6, at_h7, eqv_ii, eqv_ss, eqv_bb, eqv_is, eqv_si, eqv_nn, eqv_ni, eqv_in, eqv_bi, eqv_ib, isB hx hV] <;> first | exact q | exact ⟨_, rfl, q⟩

end K48

set_option Elab.async false
set_option linter.all false
set_option maxRecDepth 100000
namespace K48
open PySem L2 PD
open Fr
variable {K : PySem.W.Frag} {e : Ec}
theorem isEq_rt (r : Rat) : isEq (rt r) r = true := by simp [isEq, rt]
theorem is_rt {r : Rat} {Q : Rt → Prop} {E : Value → Prop} (q : Q (.v (.bool true))) : sp__law_is e [.v (rt r), .v (rt r)] Q E := ⟨rt r, r, rfl, by rw [isEq_rt]; exact q⟩
theorem isEq_iff {r s : Rat} : isEq (rt r) s = true ↔ r = s := by
  constructor
  · intro h
    simp [isEq, rt] at h
    exact Rat.ext h.1 (by omega)
  · rintro rfl
    exact isEq_rt r
theorem dn (r : Rat) : (r.den : Int) ≠ 0 := by have := r.den_nz; omega
theorem pf_is_fraction (X : XF K e [.O, .M, .N, .R, .T]) : ∀ as Qr Qe, sp_is_fraction e as Qr Qe → rd_is_fraction K e (enOf Qr Qe) (begin_ 4 as) := by
  rintro as Qr Qe ⟨d, rfl, q⟩
  unfold rd_is_fraction
  by_cases ht : ∃ x y, d = .tuple [x, y]
  · obtain ⟨x, y, rfl⟩ := ht
    refine seq_i fun k hk => ?_
    simp [qSeq, qIf, qRet, qSet, qAsg, qPar, qDrop, qNx, qRaise, qBk, qCt, qRetN, qAug, pER, pRE, pC, pName, pBin, pTest, pTru, strFit, truD, pAnd, pOr, pNot, pAndV, pOrV, pNotV, pIf, pChain, pNeg, pNil, pCons, pTup, pLst, pIxN, pCB, pCall, pcNil, pcCons, pcSrc, pcFz, pcExc, gtName, gtNil, gtCons, gtTup, gtTupX, gAdd, gMul, gI, gI0, gOrd, gIx, gLen, gInt, gI1, gI2, gGcd, slOf, enOf, begin_, seqAt, atMostOne, Sl.mut, pIsi, isD, isT, tyD, pLenN, pLst1, pLstRev, and_assoc, frzL, blkS, wipeS, toB, ptYes, qSetSrc, gEq, gNe, eqD, flatD, mixD, piSeq, piLst, piRng1, piRng2, piRng3, piFz, PD.gSub, PD.gDiv, PD.gMod, PD.gDivZ, PD.gModZ, PD.gLt, PD.gLe, PD.gGt, PD.gGe, PD.gPow, PD.gShr, PD.gXor, pSlice, pSliceFz, poNone, poSome, qPar3, gLeT, gTupC, pTupN, qSetIx, ownAt, setOwn, pSort, pDictIx, dVal, qSetOpn, qOpn, qPut, gIs, gIsNot, isN, pMt, gAppend, gPop, pChain3, piZip, piEnum, pSortI, pCat, pRep, pLstRg1, pLstRg2, pTupRg1, pInN, gIn, at_h0, at_h1, at_h2, at_h3, at_h4, at_h5, at_h6, at_h7, eqv_ii, eqv_ss, eqv_bb, eqv_is, eqv_si, eqv_nn, eqv_ni, eqv_in, eqv_bi, eqv_ib]
    subst hk
    refine seq_i fun k hk => ?_
    simp [qSeq, qIf, qRet, qSet, qAsg, qPar, qDrop, qNx, qRaise, qBk, qCt, qRetN, qAug, pER, pRE, pC, pName, pBin, pTest, pTru, strFit, truD, pAnd, pOr, pNot, pAndV, pOrV, pNotV, pIf, pChain, pNeg, pNil, pCons, pTup, pLst, pIxN, pCB, pCall, pcNil, pcCons, pcSrc, pcFz, pcExc, gtName, gtNil, gtCons, gtTup, gtTupX, gAdd, gMul, gI, gI0, gOrd, gIx, gLen, gInt, gI1, gI2, gGcd, slOf, enOf, begin_, seqAt, atMostOne, Sl.mut, pIsi, isD, isT, tyD, pLenN, pLst1, pLstRev, and_assoc, frzL, blkS, wipeS, toB, ptYes, qSetSrc, gEq, gNe, eqD, flatD, mixD, piSeq, piLst, piRng1, piRng2, piRng3, piFz, PD.gSub, PD.gDiv, PD.gMod, PD.gDivZ, PD.gModZ, PD.gLt, PD.gLe, PD.gGt, PD.gGe, PD.gPow, PD.gShr, PD.gXor, pSlice, pSliceFz, poNone, poSome, qPar3, gLeT, gTupC, pTupN, qSetIx, ownAt, setOwn, pSort, pDictIx, dVal, qSetOpn, qOpn, qPut, gIs, gIsNot, isN, pMt, gAppend, gPop, pChain3, piZip, piEnum, pSortI, pCat, pRep, pLstRg1, pLstRg2, pTupRg1, pInN, gIn, at_h0, at_h1, at_h2, at_h3, at_h4, at_h5, at_h6, at_h7, eqv_ii, eqv_ss, eqv_bb, eqv_is, eqv_si, eqv_nn, eqv_ni, eqv_in, eqv_bi, eqv_ib]
    subst hk
    by_cases hx : ∃ p w, x = .int p ∧ y = .int w
    · obtain ⟨p, w, rfl, rfl⟩ := hx
      refine seq_i fun k hk => ?_
      refine for_seq _ _ (fun i ρ => ∃ z, ρ = [.v (.tuple [.int p, .int w]), .v (.int p), .v (.int w), z]) (.inr rfl) ⟨_, rfl⟩ ?_ ?_
      · rintro i d ρ hd ⟨z, rfl⟩
        have : ∃ n, d = .int n := by
          rcases i with _ | _ | i
          · exact ⟨p, by simpa using hd.symm⟩
          · exact ⟨w, by simpa using hd.symm⟩
          · simp at hd
        obtain ⟨n, rfl⟩ := this
        simp [qSeq, qIf, qRet, qSet, qAsg, qPar, qDrop, qNx, qRaise, qBk, qCt, qRetN, qAug, pER, pRE, pC, pName, pBin, pTest, pTru, strFit, truD, pAnd, pOr, pNot, pAndV, pOrV, pNotV, pIf, pChain, pNeg, pNil, pCons, pTup, pLst, pIxN, pCB, pCall, pcNil, pcCons, pcSrc, pcFz, pcExc, gtName, gtNil, gtCons, gtTup, gtTupX, gAdd, gMul, gI, gI0, gOrd, gIx, gLen, gInt, gI1, gI2, gGcd, slOf, enOf, begin_, seqAt, atMostOne, Sl.mut, pIsi, isD, isT, tyD, pLenN, pLst1, pLstRev, and_assoc, frzL, blkS, wipeS, toB, ptYes, qSetSrc, gEq, gNe, eqD, flatD, mixD, piSeq, piLst, piRng1, piRng2, piRng3, piFz, PD.gSub, PD.gDiv, PD.gMod, PD.gDivZ, PD.gModZ, PD.gLt, PD.gLe, PD.gGt, PD.gGe, PD.gPow, PD.gShr, PD.gXor, pSlice, pSliceFz, poNone, poSome, qPar3, gLeT, gTupC, pTupN, qSetIx, ownAt, setOwn, pSort, pDictIx, dVal, qSetOpn, qOpn, qPut, gIs, gIsNot, isN, pMt, gAppend, gPop, pChain3, piZip, piEnum, pSortI, pCat, pRep, pLstRg1, pLstRg2, pTupRg1, pInN, gIn, at_h0, at_h1, at_h2, at_h3, at_h4, at_h5, at_h6, at_h7, eqv_ii, eqv_ss, eqv_bb, eqv_is, eqv_si, eqv_nn, eqv_ni, eqv_in, eqv_bi, eqv_ib]
      · rintro ρ ⟨z, rfl⟩
        show k _
        subst hk
        have q : Qr (.v (.bool (decide (-1000000000000000000000000000000000000000000000000000000000000 ≤ p) && decide (p ≤ 1000000000000000000000000000000000000000000000000000000000000) && (decide (1 ≤ w) && decide (w ≤ 1000000000000000000000000000000000000000000000000000000000000)) && gc p w == 1))) := q
        unfold gc at q
        simp [qSeq, qIf, qRet, qSet, qAsg, qPar, qDrop, qNx, qRaise, qBk, qCt, qRetN, qAug, pER, pRE, pC, pName, pBin, pTest, pTru, strFit, truD, pAnd, pOr, pNot, pAndV, pOrV, pNotV, pIf, pChain, pNeg, pNil, pCons, pTup, pLst, pIxN, pCB, pCall, pcNil, pcCons, pcSrc, pcFz, pcExc, gtName, gtNil, gtCons, gtTup, gtTupX, gAdd, gMul, gI, gI0, gOrd, gIx, gLen, gInt, gI1, gI2, gGcd, slOf, enOf, begin_, seqAt, atMostOne, Sl.mut, pIsi, isD, isT, tyD, pLenN, pLst1, pLstRev, and_assoc, frzL, blkS, wipeS, toB, ptYes, qSetSrc, gEq, gNe, eqD, flatD, mixD, piSeq, piLst, piRng1, piRng2, piRng3, piFz, PD.gSub, PD.gDiv, PD.gMod, PD.gDivZ, PD.gModZ, PD.gLt, PD.gLe, PD.gGt, PD.gGe, PD.gPow, PD.gShr, PD.gXor, pSlice, pSliceFz, poNone, poSome, qPar3, gLeT, gTupC, pTupN, qSetIx, ownAt, setOwn, pSort, pDictIx, dVal, qSetOpn, qOpn, qPut, gIs, gIsNot, isN, pMt, gAppend, gPop, pChain3, piZip, piEnum, pSortI, pCat, pRep, pLstRg1, pLstRg2, pTupRg1, pInN, gIn, at_h0, at_h1, at_h2, at_h3, at_h4, at_h5, at_h6, at_h7, eqv_ii, eqv_ss, eqv_bb, eqv_is, eqv_si, eqv_nn, eqv_ni, eqv_in, eqv_bi, eqv_ib, v_LIMIT]
        by_cases c1 : -1000000000000000000000000000000000000000000000000000000000000 ≤ p <;> by_cases c2 : p ≤ 1000000000000000000000000000000000000000000000000000000000000 <;> by_cases c3 : 1 ≤ w <;> by_cases c4 : w ≤ 1000000000000000000000000000000000000000000000000000000000000 <;> simp [c1, c2, c3, c4] at q ⊢ <;> exact q
    · have qf : Qr (.v (.bool false)) := by
        have : isFr (.tuple [x, y]) = false := by
          unfold isFr
          split
          · rename_i p w h
            cases h
            exact absurd ⟨p, w, rfl, rfl⟩ hx
          · rfl
        rwa [this] at q
      refine seq_i fun k hk => ?_
      refine for_seq _ _ (fun i ρ => (∃ z, ρ = [.v (.tuple [x, y]), .v x, .v y, z]) ∧ (0 < i → ∃ p, x = .int p) ∧ (1 < i → ∃ p, y = .int p)) (.inr rfl) ⟨⟨_, rfl⟩, fun z => absurd z (by omega), fun z => absurd z (by omega)⟩ ?_ ?_
      · rintro i d ρ hd ⟨⟨z, rfl⟩, h1, h2⟩
        rcases i with _ | _ | i
        · simp at hd
          subst hd
          cases x <;> simp [qSeq, qIf, qRet, qSet, qAsg, qPar, qDrop, qNx, qRaise, qBk, qCt, qRetN, qAug, pER, pRE, pC, pName, pBin, pTest, pTru, strFit, truD, pAnd, pOr, pNot, pAndV, pOrV, pNotV, pIf, pChain, pNeg, pNil, pCons, pTup, pLst, pIxN, pCB, pCall, pcNil, pcCons, pcSrc, pcFz, pcExc, gtName, gtNil, gtCons, gtTup, gtTupX, gAdd, gMul, gI, gI0, gOrd, gIx, gLen, gInt, gI1, gI2, gGcd, slOf, enOf, begin_, seqAt, atMostOne, Sl.mut, pIsi, isD, isT, tyD, pLenN, pLst1, pLstRev, and_assoc, frzL, blkS, wipeS, toB, ptYes, qSetSrc, gEq, gNe, eqD, flatD, mixD, piSeq, piLst, piRng1, piRng2, piRng3, piFz, PD.gSub, PD.gDiv, PD.gMod, PD.gDivZ, PD.gModZ, PD.gLt, PD.gLe, PD.gGt, PD.gGe, PD.gPow, PD.gShr, PD.gXor, pSlice, pSliceFz, poNone, poSome, qPar3, gLeT, gTupC, pTupN, qSetIx, ownAt, setOwn, pSort, pDictIx, dVal, qSetOpn, qOpn, qPut, gIs, gIsNot, isN, pMt, gAppend, gPop, pChain3, piZip, piEnum, pSortI, pCat, pRep, pLstRg1, pLstRg2, pTupRg1, pInN, gIn, at_h0, at_h1, at_h2, at_h3, at_h4, at_h5, at_h6, at_h7, eqv_ii, eqv_ss, eqv_bb, eqv_is, eqv_si, eqv_nn, eqv_ni, eqv_in, eqv_bi, eqv_ib, qf]
        · simp at hd
          subst hd
          obtain ⟨p, rfl⟩ := h1 (by omega)
          cases y <;> simp [qSeq, qIf, qRet, qSet, qAsg, qPar, qDrop, qNx, qRaise, qBk, qCt, qRetN, qAug, pER, pRE, pC, pName, pBin, pTest, pTru, strFit, truD, pAnd, pOr, pNot, pAndV, pOrV, pNotV, pIf, pChain, pNeg, pNil, pCons, pTup, pLst, pIxN, pCB, pCall, pcNil, pcCons, pcSrc, pcFz, pcExc, gtName, gtNil, gtCons, gtTup, gtTupX, gAdd, gMul, gI, gI0, gOrd, gIx, gLen, gInt, gI1, gI2, gGcd, slOf, enOf, begin_, seqAt, atMostOne, Sl.mut, pIsi, isD, isT, tyD, pLenN, pLst1, pLstRev, and_assoc, frzL, blkS, wipeS, toB, ptYes, qSetSrc, gEq, gNe, eqD, flatD, mixD, piSeq, piLst, piRng1, piRng2, piRng3, piFz, PD.gSub, PD.gDiv, PD.gMod, PD.gDivZ, PD.gModZ, PD.gLt, PD.gLe, PD.gGt, PD.gGe, PD.gPow, PD.gShr, PD.gXor, pSlice, pSliceFz, poNone, poSome, qPar3, gLeT, gTupC, pTupN, qSetIx, ownAt, setOwn, pSort, pDictIx, dVal, qSetOpn, qOpn, qPut, gIs, gIsNot, isN, pMt, gAppend, gPop, pChain3, piZip, piEnum, pSortI, pCat, pRep, pLstRg1, pLstRg2, pTupRg1, pInN, gIn, at_h0, at_h1, at_h2, at_h3, at_h4, at_h5, at_h6, at_h7, eqv_ii, eqv_ss, eqv_bb, eqv_is, eqv_si, eqv_nn, eqv_ni, eqv_in, eqv_bi, eqv_ib, qf]
        · simp at hd
      · rintro ρ ⟨_, h1, h2⟩
        obtain ⟨p, rfl⟩ := h1 (by simp)
        obtain ⟨w, rfl⟩ := h2 (by simp)
        exact absurd ⟨p, w, rfl, rfl⟩ hx
  · have qf : Qr (.v (.bool false)) := by
      have : isFr d = false := by
        unfold isFr
        split
        · exact absurd ⟨_, _, rfl⟩ ht
        · rfl
      rwa [this] at q
    cases d with
    | tuple ds =>
      match ds, ht with
      | [], _ => simp [qSeq, qIf, qRet, qSet, qAsg, qPar, qDrop, qNx, qRaise, qBk, qCt, qRetN, qAug, pER, pRE, pC, pName, pBin, pTest, pTru, strFit, truD, pAnd, pOr, pNot, pAndV, pOrV, pNotV, pIf, pChain, pNeg, pNil, pCons, pTup, pLst, pIxN, pCB, pCall, pcNil, pcCons, pcSrc, pcFz, pcExc, gtName, gtNil, gtCons, gtTup, gtTupX, gAdd, gMul, gI, gI0, gOrd, gIx, gLen, gInt, gI1, gI2, gGcd, slOf, enOf, begin_, seqAt, atMostOne, Sl.mut, pIsi, isD, isT, tyD, pLenN, pLst1, pLstRev, and_assoc, frzL, blkS, wipeS, toB, ptYes, qSetSrc, gEq, gNe, eqD, flatD, mixD, piSeq, piLst, piRng1, piRng2, piRng3, piFz, PD.gSub, PD.gDiv, PD.gMod, PD.gDivZ, PD.gModZ, PD.gLt, PD.gLe, PD.gGt, PD.gGe, PD.gPow, PD.gShr, PD.gXor, pSlice, pSliceFz, poNone, poSome, qPar3, gLeT, gTupC, pTupN, qSetIx, ownAt, setOwn, pSort, pDictIx, dVal, qSetOpn, qOpn, qPut, gIs, gIsNot, isN, pMt, gAppend, gPop, pChain3, piZip, piEnum, pSortI, pCat, pRep, pLstRg1, pLstRg2, pTupRg1, pInN, gIn, at_h0, at_h1, at_h2, at_h3, at_h4, at_h5, at_h6, at_h7, eqv_ii, eqv_ss, eqv_bb, eqv_is, eqv_si, eqv_nn, eqv_ni, eqv_in, eqv_bi, eqv_ib, qf]
      | [x], _ => simp [qSeq, qIf, qRet, qSet, qAsg, qPar, qDrop, qNx, qRaise, qBk, qCt, qRetN, qAug, pER, pRE, pC, pName, pBin, pTest, pTru, strFit, truD, pAnd, pOr, pNot, pAndV, pOrV, pNotV, pIf, pChain, pNeg, pNil, pCons, pTup, pLst, pIxN, pCB, pCall, pcNil, pcCons, pcSrc, pcFz, pcExc, gtName, gtNil, gtCons, gtTup, gtTupX, gAdd, gMul, gI, gI0, gOrd, gIx, gLen, gInt, gI1, gI2, gGcd, slOf, enOf, begin_, seqAt, atMostOne, Sl.mut, pIsi, isD, isT, tyD, pLenN, pLst1, pLstRev, and_assoc, frzL, blkS, wipeS, toB, ptYes, qSetSrc, gEq, gNe, eqD, flatD, mixD, piSeq, piLst, piRng1, piRng2, piRng3, piFz, PD.gSub, PD.gDiv, PD.gMod, PD.gDivZ, PD.gModZ, PD.gLt, PD.gLe, PD.gGt, PD.gGe, PD.gPow, PD.gShr, PD.gXor, pSlice, pSliceFz, poNone, poSome, qPar3, gLeT, gTupC, pTupN, qSetIx, ownAt, setOwn, pSort, pDictIx, dVal, qSetOpn, qOpn, qPut, gIs, gIsNot, isN, pMt, gAppend, gPop, pChain3, piZip, piEnum, pSortI, pCat, pRep, pLstRg1, pLstRg2, pTupRg1, pInN, gIn, at_h0, at_h1, at_h2, at_h3, at_h4, at_h5, at_h6, at_h7, eqv_ii, eqv_ss, eqv_bb, eqv_is, eqv_si, eqv_nn, eqv_ni, eqv_in, eqv_bi, eqv_ib, qf]
      | [x, y], ht => exact absurd ⟨x, y, rfl⟩ ht
      | x :: y :: z :: r, _ =>
        have h2 : ¬ ((r.length : Int) + 1 + 1 + 1 = 2) := by omega
        simp [qSeq, qIf, qRet, qSet, qAsg, qPar, qDrop, qNx, qRaise, qBk, qCt, qRetN, qAug, pER, pRE, pC, pName, pBin, pTest, pTru, strFit, truD, pAnd, pOr, pNot, pAndV, pOrV, pNotV, pIf, pChain, pNeg, pNil, pCons, pTup, pLst, pIxN, pCB, pCall, pcNil, pcCons, pcSrc, pcFz, pcExc, gtName, gtNil, gtCons, gtTup, gtTupX, gAdd, gMul, gI, gI0, gOrd, gIx, gLen, gInt, gI1, gI2, gGcd, slOf, enOf, begin_, seqAt, atMostOne, Sl.mut, pIsi, isD, isT, tyD, pLenN, pLst1, pLstRev, and_assoc, frzL, blkS, wipeS, toB, ptYes, qSetSrc, gEq, gNe, eqD, flatD, mixD, piSeq, piLst, piRng1, piRng2, piRng3, piFz, PD.gSub, PD.gDiv, PD.gMod, PD.gDivZ, PD.gModZ, PD.gLt, PD.gLe, PD.gGt, PD.gGe, PD.gPow, PD.gShr, PD.gXor, pSlice, pSliceFz, poNone, poSome, qPar3, gLeT, gTupC, pTupN, qSetIx, ownAt, setOwn, pSort, pDictIx, dVal, qSetOpn, qOpn, qPut, gIs, gIsNot, isN, pMt, gAppend, gPop, pChain3, piZip, piEnum, pSortI, pCat, pRep, pLstRg1, pLstRg2, pTupRg1, pInN, gIn, at_h0, at_h1, at_h2, at_h3, at_h4, at_h5, at_h6, at_h7, eqv_ii, eqv_ss, eqv_bb, eqv_is, eqv_si, eqv_nn, eqv_ni, eqv_in, eqv_bi, eqv_ib, qf, h2]
    | _ => simp [qSeq, qIf, qRet, qSet, qAsg, qPar, qDrop, qNx, qRaise, qBk, qCt, qRetN, qAug, pER, pRE, pC, pName, pBin, pTest, pTru, strFit, truD, pAnd, pOr, pNot, pAndV, pOrV, pNotV, pIf, pChain, pNeg, pNil, pCons, pTup, pLst, pIxN, pCB, pCall, pcNil, pcCons, pcSrc, pcFz, pcExc, gtName, gtNil, gtCons, gtTup, gtTupX, gAdd, gMul, gI, gI0, gOrd, gIx, gLen, gInt, gI1, gI2, gGcd, slOf, enOf, begin_, seqAt, atMostOne, Sl.mut, pIsi, isD, isT, tyD, pLenN, pLst1, pLstRev, and_assoc, frzL, blkS, wipeS, toB, ptYes, qSetSrc, gEq, gNe, eqD, flatD, mixD, piSeq, piLst, piRng1, piRng2, piRng3, piFz, PD.gSub, PD.gDiv, PD.gMod, PD.gDivZ, PD.gModZ, PD.gLt, PD.gLe, PD.gGt, PD.gGe, PD.gPow, PD.gShr, PD.gXor, pSlice, pSliceFz, poNone, poSome, qPar3, gLeT, gTupC, pTupN, qSetIx, ownAt, setOwn, pSort, pDictIx, dVal, qSetOpn, qOpn, qPut, gIs, gIsNot, isN, pMt, gAppend, gPop, pChain3, piZip, piEnum, pSortI, pCat, pRep, pLstRg1, pLstRg2, pTupRg1, pInN, gIn, at_h0, at_h1, at_h2, at_h3, at_h4, at_h5, at_h6, at_h7, eqv_ii, eqv_ss, eqv_bb, eqv_is, eqv_si, eqv_nn, eqv_ni, eqv_in, eqv_bi, eqv_ib, qf]
theorem pf_lowest (X : XF K e [.O, .M, .N, .R, .T]) : ∀ as Qr Qe, sp_lowest e as Qr Qe → rd_lowest K e (enOf Qr Qe) (begin_ 3 as) := by
  rintro as Qr Qe ⟨p, w, rfl, h, hp, hw, q⟩
  have g := gc_pos (p := p) (.inr h)
  have e1 := fd_l (p := p) (.inr h) p (gc_l p w)
  have e2 := fd_l (p := p) (.inr h) w (gc_r p w)
  have hg : Wd (gc p w) := by
    have := gc_le (p := p) (w := w)
    unfold Wd at *
    omega
  have hz : ∀ x : Int, CDivZ x (gc p w) := fun x => ⟨by omega, PySem.Flt.log2_lt_of (k := 9000) (by decide) hg⟩
  have hn : ∀ x : Int, CDivZ x (-gc p w) := fun x => ⟨by omega, by rw [Int.natAbs_neg]; exact PySem.Flt.log2_lt_of (k := 9000) (by decide) hg⟩
  rw [← low_rt h] at q
  have q : Qr (.v (.tuple [.int (sg w * p / gc p w), .int (sg w * w / gc p w)])) := q
  rw [← e1, ← e2] at q
  unfold gc at q hz hn
  simp [rd_lowest, qSeq, qIf, qRet, qSet, qAsg, qPar, qDrop, qNx, qRaise, qBk, qCt, qRetN, qAug, pER, pRE, pC, pName, pBin, pTest, pTru, strFit, truD, pAnd, pOr, pNot, pAndV, pOrV, pNotV, pIf, pChain, pNeg, pNil, pCons, pTup, pLst, pIxN, pCB, pCall, pcNil, pcCons, pcSrc, pcFz, pcExc, gtName, gtNil, gtCons, gtTup, gtTupX, gAdd, gMul, gI, gI0, gOrd, gIx, gLen, gInt, gI1, gI2, gGcd, slOf, enOf, begin_, seqAt, atMostOne, Sl.mut, pIsi, isD, isT, tyD, pLenN, pLst1, pLstRev, and_assoc, frzL, blkS, wipeS, toB, ptYes, qSetSrc, gEq, gNe, eqD, flatD, mixD, piSeq, piLst, piRng1, piRng2, piRng3, piFz, PD.gSub, PD.gDiv, PD.gMod, PD.gDivZ, PD.gModZ, PD.gLt, PD.gLe, PD.gGt, PD.gGe, PD.gPow, PD.gShr, PD.gXor, pSlice, pSliceFz, poNone, poSome, qPar3, gLeT, gTupC, pTupN, qSetIx, ownAt, setOwn, pSort, pDictIx, dVal, qSetOpn, qOpn, qPut, gIs, gIsNot, isN, pMt, gAppend, gPop, pChain3, piZip, piEnum, pSortI, pCat, pRep, pLstRg1, pLstRg2, pTupRg1, pInN, gIn, at_h0, at_h1, at_h2, at_h3, at_h4, at_h5, at_h6, at_h7, eqv_ii, eqv_ss, eqv_bb, eqv_is, eqv_si, eqv_nn, eqv_ni, eqv_in, eqv_bi, eqv_ib]
  split
  · rename_i h0
    rw [if_pos h0] at q
    exact ⟨hn _, hn _, szn 2, q⟩
  · rename_i h0
    rw [if_neg h0] at q
    exact ⟨hz _, hz _, szn 2, q⟩
theorem pf_plus (X : XF K e [.O, .M, .N, .R, .T]) : ∀ as Qr Qe, sp_plus e as Qr Qe → rd_plus K e (enOf Qr Qe) (begin_ 2 as) := by
  rintro as Qr Qe ⟨r, s, rfl, hr, hs, q⟩
  rw [add_rt] at q
  simp [rd_plus, qSeq, qIf, qRet, qSet, qAsg, qPar, qDrop, qNx, qRaise, qBk, qCt, qRetN, qAug, pER, pRE, pC, pName, pBin, pTest, pTru, strFit, truD, pAnd, pOr, pNot, pAndV, pOrV, pNotV, pIf, pChain, pNeg, pNil, pCons, pTup, pLst, pIxN, pCB, pCall, pcNil, pcCons, pcSrc, pcFz, pcExc, gtName, gtNil, gtCons, gtTup, gtTupX, gAdd, gMul, gI, gI0, gOrd, gIx, gLen, gInt, gI1, gI2, gGcd, slOf, enOf, begin_, seqAt, atMostOne, Sl.mut, pIsi, isD, isT, tyD, pLenN, pLst1, pLstRev, and_assoc, frzL, blkS, wipeS, toB, ptYes, qSetSrc, gEq, gNe, eqD, flatD, mixD, piSeq, piLst, piRng1, piRng2, piRng3, piFz, PD.gSub, PD.gDiv, PD.gMod, PD.gDivZ, PD.gModZ, PD.gLt, PD.gLe, PD.gGt, PD.gGe, PD.gPow, PD.gShr, PD.gXor, pSlice, pSliceFz, poNone, poSome, qPar3, gLeT, gTupC, pTupN, qSetIx, ownAt, setOwn, pSort, pDictIx, dVal, qSetOpn, qOpn, qPut, gIs, gIsNot, isN, pMt, gAppend, gPop, pChain3, piZip, piEnum, pSortI, pCat, pRep, pLstRg1, pLstRg2, pTupRg1, pInN, gIn, at_h0, at_h1, at_h2, at_h3, at_h4, at_h5, at_h6, at_h7, eqv_ii, eqv_ss, eqv_bb, eqv_is, eqv_si, eqv_nn, eqv_ni, eqv_in, eqv_bi, eqv_ib, sp_lowest, rt, atI, ixN]
  exact ⟨mulOk (hr.wn (by decide)) (hs.wd (by decide)), mulOk (hs.wn (by decide)) (hr.wd (by decide)), mulOk (hr.wd (by decide)) (hs.wd (by decide)), r.den_nz, s.den_nz,
    wdP 8001 (by decide) (iadd_lt (imul_lt hr.1 hs.d) (imul_lt hs.1 hr.d)), wdP 8000 (by decide) (imul_lt hr.d hs.d), q⟩
theorem pf_times (X : XF K e [.O, .M, .N, .R, .T]) : ∀ as Qr Qe, sp_times e as Qr Qe → rd_times K e (enOf Qr Qe) (begin_ 2 as) := by
  rintro as Qr Qe ⟨r, s, rfl, hr, hs, q⟩
  rw [mul_rt] at q
  simp [rd_times, qSeq, qIf, qRet, qSet, qAsg, qPar, qDrop, qNx, qRaise, qBk, qCt, qRetN, qAug, pER, pRE, pC, pName, pBin, pTest, pTru, strFit, truD, pAnd, pOr, pNot, pAndV, pOrV, pNotV, pIf, pChain, pNeg, pNil, pCons, pTup, pLst, pIxN, pCB, pCall, pcNil, pcCons, pcSrc, pcFz, pcExc, gtName, gtNil, gtCons, gtTup, gtTupX, gAdd, gMul, gI, gI0, gOrd, gIx, gLen, gInt, gI1, gI2, gGcd, slOf, enOf, begin_, seqAt, atMostOne, Sl.mut, pIsi, isD, isT, tyD, pLenN, pLst1, pLstRev, and_assoc, frzL, blkS, wipeS, toB, ptYes, qSetSrc, gEq, gNe, eqD, flatD, mixD, piSeq, piLst, piRng1, piRng2, piRng3, piFz, PD.gSub, PD.gDiv, PD.gMod, PD.gDivZ, PD.gModZ, PD.gLt, PD.gLe, PD.gGt, PD.gGe, PD.gPow, PD.gShr, PD.gXor, pSlice, pSliceFz, poNone, poSome, qPar3, gLeT, gTupC, pTupN, qSetIx, ownAt, setOwn, pSort, pDictIx, dVal, qSetOpn, qOpn, qPut, gIs, gIsNot, isN, pMt, gAppend, gPop, pChain3, piZip, piEnum, pSortI, pCat, pRep, pLstRg1, pLstRg2, pTupRg1, pInN, gIn, at_h0, at_h1, at_h2, at_h3, at_h4, at_h5, at_h6, at_h7, eqv_ii, eqv_ss, eqv_bb, eqv_is, eqv_si, eqv_nn, eqv_ni, eqv_in, eqv_bi, eqv_ib, sp_lowest, rt, atI, ixN]
  exact ⟨mulOk (hr.wn (by decide)) (hs.wn (by decide)), mulOk (hr.wd (by decide)) (hs.wd (by decide)), r.den_nz, s.den_nz,
    wdP 8000 (by decide) (imul_lt hr.1 hs.1), wdP 8000 (by decide) (imul_lt hr.d hs.d), q⟩
theorem pf__law_is (X : XF K e [.O, .M, .N, .R, .T]) : ∀ as Qr Qe, sp__law_is e as Qr Qe → rd__law_is K e (enOf Qr Qe) (begin_ 3 as) := by
  rintro as Qr Qe ⟨d, r, rfl, q⟩
  unfold rd__law_is
  by_cases ht : ∃ x y, d = .tuple [x, y]
  · obtain ⟨x, y, rfl⟩ := ht
    refine seq_i fun k hk => ?_
    simp [qSeq, qIf, qRet, qSet, qAsg, qPar, qDrop, qNx, qRaise, qBk, qCt, qRetN, qAug, pER, pRE, pC, pName, pBin, pTest, pTru, strFit, truD, pAnd, pOr, pNot, pAndV, pOrV, pNotV, pIf, pChain, pNeg, pNil, pCons, pTup, pLst, pIxN, pCB, pCall, pcNil, pcCons, pcSrc, pcFz, pcExc, gtName, gtNil, gtCons, gtTup, gtTupX, gAdd, gMul, gI, gI0, gOrd, gIx, gLen, gInt, gI1, gI2, gGcd, slOf, enOf, begin_, seqAt, atMostOne, Sl.mut, pIsi, isD, isT, tyD, pLenN, pLst1, pLstRev, and_assoc, frzL, blkS, wipeS, toB, ptYes, qSetSrc, gEq, gNe, eqD, flatD, mixD, piSeq, piLst, piRng1, piRng2, piRng3, piFz, PD.gSub, PD.gDiv, PD.gMod, PD.gDivZ, PD.gModZ, PD.gLt, PD.gLe, PD.gGt, PD.gGe, PD.gPow, PD.gShr, PD.gXor, pSlice, pSliceFz, poNone, poSome, qPar3, gLeT, gTupC, pTupN, qSetIx, ownAt, setOwn, pSort, pDictIx, dVal, qSetOpn, qOpn, qPut, gIs, gIsNot, isN, pMt, gAppend, gPop, pChain3, piZip, piEnum, pSortI, pCat, pRep, pLstRg1, pLstRg2, pTupRg1, pInN, gIn, at_h0, at_h1, at_h2, at_h3, at_h4, at_h5, at_h6, at_h7, eqv_ii, eqv_ss, eqv_bb, eqv_is, eqv_si, eqv_nn, eqv_ni, eqv_in, eqv_bi, eqv_ib]
    subst hk
    by_cases hx : ∃ p w, x = .int p ∧ y = .int w
    · obtain ⟨p, w, rfl, rfl⟩ := hx
      refine seq_i fun k hk => ?_
      refine for_seq _ _ (fun i ρ => ∃ z, ρ = [.v (.tuple [.int p, .int w]), .v (rt r), z]) (.inr rfl) ⟨_, rfl⟩ ?_ ?_
      · rintro i d ρ hd ⟨z, rfl⟩
        have : ∃ n, d = .int n := by
          rcases i with _ | _ | i
          · exact ⟨p, by simpa using hd.symm⟩
          · exact ⟨w, by simpa using hd.symm⟩
          · simp at hd
        obtain ⟨n, rfl⟩ := this
        simp [qSeq, qIf, qRet, qSet, qAsg, qPar, qDrop, qNx, qRaise, qBk, qCt, qRetN, qAug, pER, pRE, pC, pName, pBin, pTest, pTru, strFit, truD, pAnd, pOr, pNot, pAndV, pOrV, pNotV, pIf, pChain, pNeg, pNil, pCons, pTup, pLst, pIxN, pCB, pCall, pcNil, pcCons, pcSrc, pcFz, pcExc, gtName, gtNil, gtCons, gtTup, gtTupX, gAdd, gMul, gI, gI0, gOrd, gIx, gLen, gInt, gI1, gI2, gGcd, slOf, enOf, begin_, seqAt, atMostOne, Sl.mut, pIsi, isD, isT, tyD, pLenN, pLst1, pLstRev, and_assoc, frzL, blkS, wipeS, toB, ptYes, qSetSrc, gEq, gNe, eqD, flatD, mixD, piSeq, piLst, piRng1, piRng2, piRng3, piFz, PD.gSub, PD.gDiv, PD.gMod, PD.gDivZ, PD.gModZ, PD.gLt, PD.gLe, PD.gGt, PD.gGe, PD.gPow, PD.gShr, PD.gXor, pSlice, pSliceFz, poNone, poSome, qPar3, gLeT, gTupC, pTupN, qSetIx, ownAt, setOwn, pSort, pDictIx, dVal, qSetOpn, qOpn, qPut, gIs, gIsNot, isN, pMt, gAppend, gPop, pChain3, piZip, piEnum, pSortI, pCat, pRep, pLstRg1, pLstRg2, pTupRg1, pInN, gIn, at_h0, at_h1, at_h2, at_h3, at_h4, at_h5, at_h6, at_h7, eqv_ii, eqv_ss, eqv_bb, eqv_is, eqv_si, eqv_nn, eqv_ni, eqv_in, eqv_bi, eqv_ib]
      · rintro ρ ⟨z, rfl⟩
        show k _
        subst hk
        have q : Qr (.v (.bool (p == r.num && w == (r.den : Int)))) := q
        simp [qSeq, qIf, qRet, qSet, qAsg, qPar, qDrop, qNx, qRaise, qBk, qCt, qRetN, qAug, pER, pRE, pC, pName, pBin, pTest, pTru, strFit, truD, pAnd, pOr, pNot, pAndV, pOrV, pNotV, pIf, pChain, pNeg, pNil, pCons, pTup, pLst, pIxN, pCB, pCall, pcNil, pcCons, pcSrc, pcFz, pcExc, gtName, gtNil, gtCons, gtTup, gtTupX, gAdd, gMul, gI, gI0, gOrd, gIx, gLen, gInt, gI1, gI2, gGcd, slOf, enOf, begin_, seqAt, atMostOne, Sl.mut, pIsi, isD, isT, tyD, pLenN, pLst1, pLstRev, and_assoc, frzL, blkS, wipeS, toB, ptYes, qSetSrc, gEq, gNe, eqD, flatD, mixD, piSeq, piLst, piRng1, piRng2, piRng3, piFz, PD.gSub, PD.gDiv, PD.gMod, PD.gDivZ, PD.gModZ, PD.gLt, PD.gLe, PD.gGt, PD.gGe, PD.gPow, PD.gShr, PD.gXor, pSlice, pSliceFz, poNone, poSome, qPar3, gLeT, gTupC, pTupN, qSetIx, ownAt, setOwn, pSort, pDictIx, dVal, qSetOpn, qOpn, qPut, gIs, gIsNot, isN, pMt, gAppend, gPop, pChain3, piZip, piEnum, pSortI, pCat, pRep, pLstRg1, pLstRg2, pTupRg1, pInN, gIn, at_h0, at_h1, at_h2, at_h3, at_h4, at_h5, at_h6, at_h7, eqv_ii, eqv_ss, eqv_bb, eqv_is, eqv_si, eqv_nn, eqv_ni, eqv_in, eqv_bi, eqv_ib, rt, atI, ixN]
        by_cases c1 : p = r.num
        · simp [c1] at q ⊢
          exact q
        · rw [show (p == r.num) = false from beq_eq_false_iff_ne.mpr c1] at q
          simp [c1]
          simpa using q
    · have qf : Qr (.v (.bool false)) := by
        have : isEq (.tuple [x, y]) r = false := by
          unfold isEq
          split
          · rename_i p w h
            cases h
            exact absurd ⟨p, w, rfl, rfl⟩ hx
          · rfl
        rwa [this] at q
      refine seq_i fun k hk => ?_
      refine for_seq _ _ (fun i ρ => (∃ z, ρ = [.v (.tuple [x, y]), .v (rt r), z]) ∧ (0 < i → ∃ p, x = .int p) ∧ (1 < i → ∃ p, y = .int p)) (.inr rfl) ⟨⟨_, rfl⟩, fun z => absurd z (by omega), fun z => absurd z (by omega)⟩ ?_ ?_
      · rintro i d ρ hd ⟨⟨z, rfl⟩, h1, h2⟩
        rcases i with _ | _ | i
        · simp at hd
          subst hd
          cases x <;> simp [qSeq, qIf, qRet, qSet, qAsg, qPar, qDrop, qNx, qRaise, qBk, qCt, qRetN, qAug, pER, pRE, pC, pName, pBin, pTest, pTru, strFit, truD, pAnd, pOr, pNot, pAndV, pOrV, pNotV, pIf, pChain, pNeg, pNil, pCons, pTup, pLst, pIxN, pCB, pCall, pcNil, pcCons, pcSrc, pcFz, pcExc, gtName, gtNil, gtCons, gtTup, gtTupX, gAdd, gMul, gI, gI0, gOrd, gIx, gLen, gInt, gI1, gI2, gGcd, slOf, enOf, begin_, seqAt, atMostOne, Sl.mut, pIsi, isD, isT, tyD, pLenN, pLst1, pLstRev, and_assoc, frzL, blkS, wipeS, toB, ptYes, qSetSrc, gEq, gNe, eqD, flatD, mixD, piSeq, piLst, piRng1, piRng2, piRng3, piFz, PD.gSub, PD.gDiv, PD.gMod, PD.gDivZ, PD.gModZ, PD.gLt, PD.gLe, PD.gGt, PD.gGe, PD.gPow, PD.gShr, PD.gXor, pSlice, pSliceFz, poNone, poSome, qPar3, gLeT, gTupC, pTupN, qSetIx, ownAt, setOwn, pSort, pDictIx, dVal, qSetOpn, qOpn, qPut, gIs, gIsNot, isN, pMt, gAppend, gPop, pChain3, piZip, piEnum, pSortI, pCat, pRep, pLstRg1, pLstRg2, pTupRg1, pInN, gIn, at_h0, at_h1, at_h2, at_h3, at_h4, at_h5, at_h6, at_h7, eqv_ii, eqv_ss, eqv_bb, eqv_is, eqv_si, eqv_nn, eqv_ni, eqv_in, eqv_bi, eqv_ib, qf]
        · simp at hd
          subst hd
          obtain ⟨p, rfl⟩ := h1 (by omega)
          cases y <;> simp [qSeq, qIf, qRet, qSet, qAsg, qPar, qDrop, qNx, qRaise, qBk, qCt, qRetN, qAug, pER, pRE, pC, pName, pBin, pTest, pTru, strFit, truD, pAnd, pOr, pNot, pAndV, pOrV, pNotV, pIf, pChain, pNeg, pNil, pCons, pTup, pLst, pIxN, pCB, pCall, pcNil, pcCons, pcSrc, pcFz, pcExc, gtName, gtNil, gtCons, gtTup, gtTupX, gAdd, gMul, gI, gI0, gOrd, gIx, gLen, gInt, gI1, gI2, gGcd, slOf, enOf, begin_, seqAt, atMostOne, Sl.mut, pIsi, isD, isT, tyD, pLenN, pLst1, pLstRev, and_assoc, frzL, blkS, wipeS, toB, ptYes, qSetSrc, gEq, gNe, eqD, flatD, mixD, piSeq, piLst, piRng1, piRng2, piRng3, piFz, PD.gSub, PD.gDiv, PD.gMod, PD.gDivZ, PD.gModZ, PD.gLt, PD.gLe, PD.gGt, PD.gGe, PD.gPow, PD.gShr, PD.gXor, pSlice, pSliceFz, poNone, poSome, qPar3, gLeT, gTupC, pTupN, qSetIx, ownAt, setOwn, pSort, pDictIx, dVal, qSetOpn, qOpn, qPut, gIs, gIsNot, isN, pMt, gAppend, gPop, pChain3, piZip, piEnum, pSortI, pCat, pRep, pLstRg1, pLstRg2, pTupRg1, pInN, gIn, at_h0, at_h1, at_h2, at_h3, at_h4, at_h5, at_h6, at_h7, eqv_ii, eqv_ss, eqv_bb, eqv_is, eqv_si, eqv_nn, eqv_ni, eqv_in, eqv_bi, eqv_ib, qf]
        · simp at hd
      · rintro ρ ⟨_, h1, h2⟩
        obtain ⟨p, rfl⟩ := h1 (by simp)
        obtain ⟨w, rfl⟩ := h2 (by simp)
        exact absurd ⟨p, w, rfl, rfl⟩ hx
  · have qf : Qr (.v (.bool false)) := by
      have : isEq d r = false := by
        unfold isEq
        split
        · exact absurd ⟨_, _, rfl⟩ ht
        · rfl
      rwa [this] at q
    cases d with
    | tuple ds =>
      match ds, ht with
      | [], _ => simp [qSeq, qIf, qRet, qSet, qAsg, qPar, qDrop, qNx, qRaise, qBk, qCt, qRetN, qAug, pER, pRE, pC, pName, pBin, pTest, pTru, strFit, truD, pAnd, pOr, pNot, pAndV, pOrV, pNotV, pIf, pChain, pNeg, pNil, pCons, pTup, pLst, pIxN, pCB, pCall, pcNil, pcCons, pcSrc, pcFz, pcExc, gtName, gtNil, gtCons, gtTup, gtTupX, gAdd, gMul, gI, gI0, gOrd, gIx, gLen, gInt, gI1, gI2, gGcd, slOf, enOf, begin_, seqAt, atMostOne, Sl.mut, pIsi, isD, isT, tyD, pLenN, pLst1, pLstRev, and_assoc, frzL, blkS, wipeS, toB, ptYes, qSetSrc, gEq, gNe, eqD, flatD, mixD, piSeq, piLst, piRng1, piRng2, piRng3, piFz, PD.gSub, PD.gDiv, PD.gMod, PD.gDivZ, PD.gModZ, PD.gLt, PD.gLe, PD.gGt, PD.gGe, PD.gPow, PD.gShr, PD.gXor, pSlice, pSliceFz, poNone, poSome, qPar3, gLeT, gTupC, pTupN, qSetIx, ownAt, setOwn, pSort, pDictIx, dVal, qSetOpn, qOpn, qPut, gIs, gIsNot, isN, pMt, gAppend, gPop, pChain3, piZip, piEnum, pSortI, pCat, pRep, pLstRg1, pLstRg2, pTupRg1, pInN, gIn, at_h0, at_h1, at_h2, at_h3, at_h4, at_h5, at_h6, at_h7, eqv_ii, eqv_ss, eqv_bb, eqv_is, eqv_si, eqv_nn, eqv_ni, eqv_in, eqv_bi, eqv_ib, qf]
      | [x], _ => simp [qSeq, qIf, qRet, qSet, qAsg, qPar, qDrop, qNx, qRaise, qBk, qCt, qRetN, qAug, pER, pRE, pC, pName, pBin, pTest, pTru, strFit, truD, pAnd, pOr, pNot, pAndV, pOrV, pNotV, pIf, pChain, pNeg, pNil, pCons, pTup, pLst, pIxN, pCB, pCall, pcNil, pcCons, pcSrc, pcFz, pcExc, gtName, gtNil, gtCons, gtTup, gtTupX, gAdd, gMul, gI, gI0, gOrd, gIx, gLen, gInt, gI1, gI2, gGcd, slOf, enOf, begin_, seqAt, atMostOne, Sl.mut, pIsi, isD, isT, tyD, pLenN, pLst1, pLstRev, and_assoc, frzL, blkS, wipeS, toB, ptYes, qSetSrc, gEq, gNe, eqD, flatD, mixD, piSeq, piLst, piRng1, piRng2, piRng3, piFz, PD.gSub, PD.gDiv, PD.gMod, PD.gDivZ, PD.gModZ, PD.gLt, PD.gLe, PD.gGt, PD.gGe, PD.gPow, PD.gShr, PD.gXor, pSlice, pSliceFz, poNone, poSome, qPar3, gLeT, gTupC, pTupN, qSetIx, ownAt, setOwn, pSort, pDictIx, dVal, qSetOpn, qOpn, qPut, gIs, gIsNot, isN, pMt, gAppend, gPop, pChain3, piZip, piEnum, pSortI, pCat, pRep, pLstRg1, pLstRg2, pTupRg1, pInN, gIn, at_h0, at_h1, at_h2, at_h3, at_h4, at_h5, at_h6, at_h7, eqv_ii, eqv_ss, eqv_bb, eqv_is, eqv_si, eqv_nn, eqv_ni, eqv_in, eqv_bi, eqv_ib, qf]
      | [x, y], ht => exact absurd ⟨x, y, rfl⟩ ht
      | x :: y :: z :: rr, _ =>
        have h2 : ¬ ((rr.length : Int) + 1 + 1 + 1 = 2) := by omega
        simp [qSeq, qIf, qRet, qSet, qAsg, qPar, qDrop, qNx, qRaise, qBk, qCt, qRetN, qAug, pER, pRE, pC, pName, pBin, pTest, pTru, strFit, truD, pAnd, pOr, pNot, pAndV, pOrV, pNotV, pIf, pChain, pNeg, pNil, pCons, pTup, pLst, pIxN, pCB, pCall, pcNil, pcCons, pcSrc, pcFz, pcExc, gtName, gtNil, gtCons, gtTup, gtTupX, gAdd, gMul, gI, gI0, gOrd, gIx, gLen, gInt, gI1, gI2, gGcd, slOf, enOf, begin_, seqAt, atMostOne, Sl.mut, pIsi, isD, isT, tyD, pLenN, pLst1, pLstRev, and_assoc, frzL, blkS, wipeS, toB, ptYes, qSetSrc, gEq, gNe, eqD, flatD, mixD, piSeq, piLst, piRng1, piRng2, piRng3, piFz, PD.gSub, PD.gDiv, PD.gMod, PD.gDivZ, PD.gModZ, PD.gLt, PD.gLe, PD.gGt, PD.gGe, PD.gPow, PD.gShr, PD.gXor, pSlice, pSliceFz, poNone, poSome, qPar3, gLeT, gTupC, pTupN, qSetIx, ownAt, setOwn, pSort, pDictIx, dVal, qSetOpn, qOpn, qPut, gIs, gIsNot, isN, pMt, gAppend, gPop, pChain3, piZip, piEnum, pSortI, pCat, pRep, pLstRg1, pLstRg2, pTupRg1, pInN, gIn, at_h0, at_h1, at_h2, at_h3, at_h4, at_h5, at_h6, at_h7, eqv_ii, eqv_ss, eqv_bb, eqv_is, eqv_si, eqv_nn, eqv_ni, eqv_in, eqv_bi, eqv_ib, qf, h2]
    | _ => simp [qSeq, qIf, qRet, qSet, qAsg, qPar, qDrop, qNx, qRaise, qBk, qCt, qRetN, qAug, pER, pRE, pC, pName, pBin, pTest, pTru, strFit, truD, pAnd, pOr, pNot, pAndV, pOrV, pNotV, pIf, pChain, pNeg, pNil, pCons, pTup, pLst, pIxN, pCB, pCall, pcNil, pcCons, pcSrc, pcFz, pcExc, gtName, gtNil, gtCons, gtTup, gtTupX, gAdd, gMul, gI, gI0, gOrd, gIx, gLen, gInt, gI1, gI2, gGcd, slOf, enOf, begin_, seqAt, atMostOne, Sl.mut, pIsi, isD, isT, tyD, pLenN, pLst1, pLstRev, and_assoc, frzL, blkS, wipeS, toB, ptYes, qSetSrc, gEq, gNe, eqD, flatD, mixD, piSeq, piLst, piRng1, piRng2, piRng3, piFz, PD.gSub, PD.gDiv, PD.gMod, PD.gDivZ, PD.gModZ, PD.gLt, PD.gLe, PD.gGt, PD.gGe, PD.gPow, PD.gShr, PD.gXor, pSlice, pSliceFz, poNone, poSome, qPar3, gLeT, gTupC, pTupN, qSetIx, ownAt, setOwn, pSort, pDictIx, dVal, qSetOpn, qOpn, qPut, gIs, gIsNot, isN, pMt, gAppend, gPop, pChain3, piZip, piEnum, pSortI, pCat, pRep, pLstRg1, pLstRg2, pTupRg1, pInN, gIn, at_h0, at_h1, at_h2, at_h3, at_h4, at_h5, at_h6, at_h7, eqv_ii, eqv_ss, eqv_bb, eqv_is, eqv_si, eqv_nn, eqv_ni, eqv_in, eqv_bi, eqv_ib, qf]

theorem low_pos {p w : Int} (hw : 0 < w) : rt (Rat.divInt p w) = .tuple [.int (p / gc w p), .int (w / gc w p)] := by
  rw [← low_rt (by omega)]
  unfold lo1 lo2 sg gc
  rw [if_neg (by omega), Int.one_mul, Int.one_mul, Nat.gcd_comm]
theorem pf__law_lowest (X : XF K e [.O, .M, .N, .R, .T]) : ∀ as Qr Qe, sp__law_lowest e as Qr Qe → rd__law_lowest K e (enOf Qr Qe) (begin_ 6 as) := by
  rintro as Qr Qe ⟨p, w, rfl, hw, hp, bp, bw, q⟩
  unfold rd__law_lowest
  have g0 := gc_pos (p := w) (w := p) (.inl (by omega))
  have wg : Wd (gc w p) := by
    have := gc_le (p := w) (w := p)
    have h1 : p.natAbs < 2 ^ 9000 := ilift bp (by decide)
    have h2 : w.natAbs < 2 ^ 9000 := ilift bw (by decide)
    unfold Wd
    omega
  rw [low_pos hw] at q
  refine seq_i fun k hk => ?_
  simp [qSeq, qIf, qRet, qSet, qAsg, qPar, qDrop, qNx, qRaise, qBk, qCt, qRetN, qAug, pER, pRE, pC, pName, pBin, pTest, pTru, strFit, truD, pAnd, pOr, pNot, pAndV, pOrV, pNotV, pIf, pChain, pNeg, pNil, pCons, pTup, pLst, pIxN, pCB, pCall, pcNil, pcCons, pcSrc, pcFz, pcExc, gtName, gtNil, gtCons, gtTup, gtTupX, gAdd, gMul, gI, gI0, gOrd, gIx, gLen, gInt, gI1, gI2, gGcd, slOf, enOf, begin_, seqAt, atMostOne, Sl.mut, pIsi, isD, isT, tyD, pLenN, pLst1, pLstRev, and_assoc, frzL, blkS, wipeS, toB, ptYes, qSetSrc, gEq, gNe, eqD, flatD, mixD, piSeq, piLst, piRng1, piRng2, piRng3, piFz, PD.gSub, PD.gDiv, PD.gMod, PD.gDivZ, PD.gModZ, PD.gLt, PD.gLe, PD.gGt, PD.gGe, PD.gPow, PD.gShr, PD.gXor, pSlice, pSliceFz, poNone, poSome, qPar3, gLeT, gTupC, pTupN, qSetIx, ownAt, setOwn, pSort, pDictIx, dVal, qSetOpn, qOpn, qPut, gIs, gIsNot, isN, pMt, gAppend, gPop, pChain3, piZip, piEnum, pSortI, pCat, pRep, pLstRg1, pLstRg2, pTupRg1, pInN, gIn, at_h0, at_h1, at_h2, at_h3, at_h4, at_h5, at_h6, at_h7, eqv_ii, eqv_ss, eqv_bb, eqv_is, eqv_si, eqv_nn, eqv_ni, eqv_in, eqv_bi, eqv_ib]
  subst hk
  refine seq_i fun k hk => ?_
  simp [qSeq, qIf, qRet, qSet, qAsg, qPar, qDrop, qNx, qRaise, qBk, qCt, qRetN, qAug, pER, pRE, pC, pName, pBin, pTest, pTru, strFit, truD, pAnd, pOr, pNot, pAndV, pOrV, pNotV, pIf, pChain, pNeg, pNil, pCons, pTup, pLst, pIxN, pCB, pCall, pcNil, pcCons, pcSrc, pcFz, pcExc, gtName, gtNil, gtCons, gtTup, gtTupX, gAdd, gMul, gI, gI0, gOrd, gIx, gLen, gInt, gI1, gI2, gGcd, slOf, enOf, begin_, seqAt, atMostOne, Sl.mut, pIsi, isD, isT, tyD, pLenN, pLst1, pLstRev, and_assoc, frzL, blkS, wipeS, toB, ptYes, qSetSrc, gEq, gNe, eqD, flatD, mixD, piSeq, piLst, piRng1, piRng2, piRng3, piFz, PD.gSub, PD.gDiv, PD.gMod, PD.gDivZ, PD.gModZ, PD.gLt, PD.gLe, PD.gGt, PD.gGe, PD.gPow, PD.gShr, PD.gXor, pSlice, pSliceFz, poNone, poSome, qPar3, gLeT, gTupC, pTupN, qSetIx, ownAt, setOwn, pSort, pDictIx, dVal, qSetOpn, qOpn, qPut, gIs, gIsNot, isN, pMt, gAppend, gPop, pChain3, piZip, piEnum, pSortI, pCat, pRep, pLstRg1, pLstRg2, pTupRg1, pInN, gIn, at_h0, at_h1, at_h2, at_h3, at_h4, at_h5, at_h6, at_h7, eqv_ii, eqv_ss, eqv_bb, eqv_is, eqv_si, eqv_nn, eqv_ni, eqv_in, eqv_bi, eqv_ib]
  subst hk
  refine seq_i fun k hk => ?_
  have fin : ∀ (i : Nat) (x y : Sl) (g : Int), Eu w p i g 0 → k [.v (.int p), .v (.int w), .v (.int g), x, y, .un] ∨ True := fun _ _ _ _ _ => .inr trivial
  have fin : ∀ (i : Nat) (ρ : List Sl) (g : Int), Eu w p i g 0 → ρ[0]? = some (.v (.int p)) → ρ[1]? = some (.v (.int w)) → ρ[2]? = some (.v (.int g)) → k ρ := by
    intro i ρ g hg h0 h1 h2
    have eg := eu_gc hg
    subst eg
    subst hk
    simp [qSeq, qIf, qRet, qSet, qAsg, qPar, qDrop, qNx, qRaise, qBk, qCt, qRetN, qAug, pER, pRE, pC, pName, pBin, pTest, pTru, strFit, truD, pAnd, pOr, pNot, pAndV, pOrV, pNotV, pIf, pChain, pNeg, pNil, pCons, pTup, pLst, pIxN, pCB, pCall, pcNil, pcCons, pcSrc, pcFz, pcExc, gtName, gtNil, gtCons, gtTup, gtTupX, gAdd, gMul, gI, gI0, gOrd, gIx, gLen, gInt, gI1, gI2, gGcd, slOf, enOf, begin_, seqAt, atMostOne, Sl.mut, pIsi, isD, isT, tyD, pLenN, pLst1, pLstRev, and_assoc, frzL, blkS, wipeS, toB, ptYes, qSetSrc, gEq, gNe, eqD, flatD, mixD, piSeq, piLst, piRng1, piRng2, piRng3, piFz, PD.gSub, PD.gDiv, PD.gMod, PD.gDivZ, PD.gModZ, PD.gLt, PD.gLe, PD.gGt, PD.gGe, PD.gPow, PD.gShr, PD.gXor, pSlice, pSliceFz, poNone, poSome, qPar3, gLeT, gTupC, pTupN, qSetIx, ownAt, setOwn, pSort, pDictIx, dVal, qSetOpn, qOpn, qPut, gIs, gIsNot, isN, pMt, gAppend, gPop, pChain3, piZip, piEnum, pSortI, pCat, pRep, pLstRg1, pLstRg2, pTupRg1, pInN, gIn, at_h0, at_h1, at_h2, at_h3, at_h4, at_h5, at_h6, at_h7, eqv_ii, eqv_ss, eqv_bb, eqv_is, eqv_si, eqv_nn, eqv_ni, eqv_in, eqv_bi, eqv_ib, h0, h1, h2]
    exact ⟨divOk g0 wg, divOk g0 wg, szn 2, q⟩
  refine for_rng 2000 (fun i ρ => ∃ (a b : Int) (x y : Sl), ρ = [.v (.int p), .v (.int w), .v (.int a), .v (.int b), x, y] ∧ Eu w p i a b) ⟨by omega, by omega⟩ ⟨w, p, _, _, rfl, by have := eu0 w p; rw [if_neg (by omega), if_neg (by omega)] at this; exact this⟩ ?_ ?_
  · rintro i ρ hi ⟨a, b, x, y, rfl, eu⟩
    by_cases hb : b = 0
    · subst hb
      simp [qSeq, qIf, qRet, qSet, qAsg, qPar, qDrop, qNx, qRaise, qBk, qCt, qRetN, qAug, pER, pRE, pC, pName, pBin, pTest, pTru, strFit, truD, pAnd, pOr, pNot, pAndV, pOrV, pNotV, pIf, pChain, pNeg, pNil, pCons, pTup, pLst, pIxN, pCB, pCall, pcNil, pcCons, pcSrc, pcFz, pcExc, gtName, gtNil, gtCons, gtTup, gtTupX, gAdd, gMul, gI, gI0, gOrd, gIx, gLen, gInt, gI1, gI2, gGcd, slOf, enOf, begin_, seqAt, atMostOne, Sl.mut, pIsi, isD, isT, tyD, pLenN, pLst1, pLstRev, and_assoc, frzL, blkS, wipeS, toB, ptYes, qSetSrc, gEq, gNe, eqD, flatD, mixD, piSeq, piLst, piRng1, piRng2, piRng3, piFz, PD.gSub, PD.gDiv, PD.gMod, PD.gDivZ, PD.gModZ, PD.gLt, PD.gLe, PD.gGt, PD.gGe, PD.gPow, PD.gShr, PD.gXor, pSlice, pSliceFz, poNone, poSome, qPar3, gLeT, gTupC, pTupN, qSetIx, ownAt, setOwn, pSort, pDictIx, dVal, qSetOpn, qOpn, qPut, gIs, gIsNot, isN, pMt, gAppend, gPop, pChain3, piZip, piEnum, pSortI, pCat, pRep, pLstRg1, pLstRg2, pTupRg1, pInN, gIn, at_h0, at_h1, at_h2, at_h3, at_h4, at_h5, at_h6, at_h7, eqv_ii, eqv_ss, eqv_bb, eqv_is, eqv_si, eqv_nn, eqv_ni, eqv_in, eqv_bi, eqv_ib]
      exact fin _ _ _ eu rfl rfl rfl
    · have b0 : 0 < b := by have := eu.b0; omega
      simp [qSeq, qIf, qRet, qSet, qAsg, qPar, qDrop, qNx, qRaise, qBk, qCt, qRetN, qAug, pER, pRE, pC, pName, pBin, pTest, pTru, strFit, truD, pAnd, pOr, pNot, pAndV, pOrV, pNotV, pIf, pChain, pNeg, pNil, pCons, pTup, pLst, pIxN, pCB, pCall, pcNil, pcCons, pcSrc, pcFz, pcExc, gtName, gtNil, gtCons, gtTup, gtTupX, gAdd, gMul, gI, gI0, gOrd, gIx, gLen, gInt, gI1, gI2, gGcd, slOf, enOf, begin_, seqAt, atMostOne, Sl.mut, pIsi, isD, isT, tyD, pLenN, pLst1, pLstRev, and_assoc, frzL, blkS, wipeS, toB, ptYes, qSetSrc, gEq, gNe, eqD, flatD, mixD, piSeq, piLst, piRng1, piRng2, piRng3, piFz, PD.gSub, PD.gDiv, PD.gMod, PD.gDivZ, PD.gModZ, PD.gLt, PD.gLe, PD.gGt, PD.gGe, PD.gPow, PD.gShr, PD.gXor, pSlice, pSliceFz, poNone, poSome, qPar3, gLeT, gTupC, pTupN, qSetIx, ownAt, setOwn, pSort, pDictIx, dVal, qSetOpn, qOpn, qPut, gIs, gIsNot, isN, pMt, gAppend, gPop, pChain3, piZip, piEnum, pSortI, pCat, pRep, pLstRg1, pLstRg2, pTupRg1, pInN, gIn, at_h0, at_h1, at_h2, at_h3, at_h4, at_h5, at_h6, at_h7, eqv_ii, eqv_ss, eqv_bb, eqv_is, eqv_si, eqv_nn, eqv_ni, eqv_in, eqv_bi, eqv_ib, hb]
      exact ⟨b0, eu1 eu hb⟩
  · rintro ρ ⟨a, b, x, y, rfl, eu⟩
    have hb := eu_endN eu (by decide) (Nat.lt_of_lt_of_le (mul_lt bw bp) (Nat.pow_le_pow_right (by decide) (by decide)))
    subst hb
    exact fin _ _ _ eu rfl rfl rfl

end K48

set_option Elab.async false
set_option linter.all false
set_option maxRecDepth 100000
namespace K48
open PySem L2 PD
open Fr
variable {K : PySem.W.Frag} {e : Ec}
theorem pf_is_number (X : XF K e [.O, .M, .N, .R, .T]) : ∀ as Qr Qe, sp_is_number e as Qr Qe → rd_is_number K e (enOf Qr Qe) (begin_ 3 as) := by
  rintro as Qr Qe ⟨d, lo, hi, rfl, q⟩
  cases d with
  | int i =>
    have q : Qr (.v (.bool (decide (lo ≤ i) && decide (i ≤ hi)))) := q
    by_cases c1 : lo ≤ i <;> simp [rd_is_number, qSeq, qIf, qRet, qSet, qAsg, qPar, qDrop, qNx, qRaise, qBk, qCt, qRetN, qAug, pER, pRE, pC, pName, pBin, pTest, pTru, strFit, truD, pAnd, pOr, pNot, pAndV, pOrV, pNotV, pIf, pChain, pNeg, pNil, pCons, pTup, pLst, pIxN, pCB, pCall, pcNil, pcCons, pcSrc, pcFz, pcExc, gtName, gtNil, gtCons, gtTup, gtTupX, gAdd, gMul, gI, gI0, gOrd, gIx, gLen, gInt, gI1, gI2, gGcd, slOf, enOf, begin_, seqAt, atMostOne, Sl.mut, pIsi, isD, isT, tyD, pLenN, pLst1, pLstRev, and_assoc, frzL, blkS, wipeS, toB, ptYes, qSetSrc, gEq, gNe, eqD, flatD, mixD, piSeq, piLst, piRng1, piRng2, piRng3, piFz, PD.gSub, PD.gDiv, PD.gMod, PD.gDivZ, PD.gModZ, PD.gLt, PD.gLe, PD.gGt, PD.gGe, PD.gPow, PD.gShr, PD.gXor, pSlice, pSliceFz, poNone, poSome, qPar3, gLeT, gTupC, pTupN, qSetIx, ownAt, setOwn, pSort, pDictIx, dVal, qSetOpn, qOpn, qPut, gIs, gIsNot, isN, pMt, gAppend, gPop, pChain3, piZip, piEnum, pSortI, pCat, pRep, pLstRg1, pLstRg2, pTupRg1, pInN, gIn, at_h0, at_h1, at_h2, at_h3, at_h4, at_h5, at_h6, at_h7, eqv_ii, eqv_ss, eqv_bb, eqv_is, eqv_si, eqv_nn, eqv_ni, eqv_in, eqv_bi, eqv_ib, c1] at q ⊢ <;> exact q
  | _ => simp [rd_is_number, qSeq, qIf, qRet, qSet, qAsg, qPar, qDrop, qNx, qRaise, qBk, qCt, qRetN, qAug, pER, pRE, pC, pName, pBin, pTest, pTru, strFit, truD, pAnd, pOr, pNot, pAndV, pOrV, pNotV, pIf, pChain, pNeg, pNil, pCons, pTup, pLst, pIxN, pCB, pCall, pcNil, pcCons, pcSrc, pcFz, pcExc, gtName, gtNil, gtCons, gtTup, gtTupX, gAdd, gMul, gI, gI0, gOrd, gIx, gLen, gInt, gI1, gI2, gGcd, slOf, enOf, begin_, seqAt, atMostOne, Sl.mut, pIsi, isD, isT, tyD, pLenN, pLst1, pLstRev, and_assoc, frzL, blkS, wipeS, toB, ptYes, qSetSrc, gEq, gNe, eqD, flatD, mixD, piSeq, piLst, piRng1, piRng2, piRng3, piFz, PD.gSub, PD.gDiv, PD.gMod, PD.gDivZ, PD.gModZ, PD.gLt, PD.gLe, PD.gGt, PD.gGe, PD.gPow, PD.gShr, PD.gXor, pSlice, pSliceFz, poNone, poSome, qPar3, gLeT, gTupC, pTupN, qSetIx, ownAt, setOwn, pSort, pDictIx, dVal, qSetOpn, qOpn, qPut, gIs, gIsNot, isN, pMt, gAppend, gPop, pChain3, piZip, piEnum, pSortI, pCat, pRep, pLstRg1, pLstRg2, pTupRg1, pInN, gIn, at_h0, at_h1, at_h2, at_h3, at_h4, at_h5, at_h6, at_h7, eqv_ii, eqv_ss, eqv_bb, eqv_is, eqv_si, eqv_nn, eqv_ni, eqv_in, eqv_bi, eqv_ib]; exact q
theorem pf_is_day (X : XF K e [.O, .M, .N, .R, .T]) : ∀ as Qr Qe, sp_is_day e as Qr Qe → rd_is_day K e (enOf Qr Qe) (begin_ 1 as) := by
  rintro as Qr Qe ⟨d, rfl, q⟩
  simp [rd_is_day, qSeq, qIf, qRet, qSet, qAsg, qPar, qDrop, qNx, qRaise, qBk, qCt, qRetN, qAug, pER, pRE, pC, pName, pBin, pTest, pTru, strFit, truD, pAnd, pOr, pNot, pAndV, pOrV, pNotV, pIf, pChain, pNeg, pNil, pCons, pTup, pLst, pIxN, pCB, pCall, pcNil, pcCons, pcSrc, pcFz, pcExc, gtName, gtNil, gtCons, gtTup, gtTupX, gAdd, gMul, gI, gI0, gOrd, gIx, gLen, gInt, gI1, gI2, gGcd, slOf, enOf, begin_, seqAt, atMostOne, Sl.mut, pIsi, isD, isT, tyD, pLenN, pLst1, pLstRev, and_assoc, frzL, blkS, wipeS, toB, ptYes, qSetSrc, gEq, gNe, eqD, flatD, mixD, piSeq, piLst, piRng1, piRng2, piRng3, piFz, PD.gSub, PD.gDiv, PD.gMod, PD.gDivZ, PD.gModZ, PD.gLt, PD.gLe, PD.gGt, PD.gGe, PD.gPow, PD.gShr, PD.gXor, pSlice, pSliceFz, poNone, poSome, qPar3, gLeT, gTupC, pTupN, qSetIx, ownAt, setOwn, pSort, pDictIx, dVal, qSetOpn, qOpn, qPut, gIs, gIsNot, isN, pMt, gAppend, gPop, pChain3, piZip, piEnum, pSortI, pCat, pRep, pLstRg1, pLstRg2, pTupRg1, pInN, gIn, at_h0, at_h1, at_h2, at_h3, at_h4, at_h5, at_h6, at_h7, eqv_ii, eqv_ss, eqv_bb, eqv_is, eqv_si, eqv_nn, eqv_ni, eqv_in, eqv_bi, eqv_ib, v_LAST_DAY, sp_is_number]
  exact q
theorem pf_is_rate (X : XF K e [.O, .M, .N, .R, .T]) : ∀ as Qr Qe, sp_is_rate e as Qr Qe → rd_is_rate K e (enOf Qr Qe) (begin_ 1 as) := by
  rintro as Qr Qe ⟨d, rfl, q⟩
  by_cases h : isFr d = true
  · have : ∃ p w, d = .tuple [.int p, .int w] := by
      unfold isFr at h
      split at h
      · exact ⟨_, _, rfl⟩
      · cases h
    obtain ⟨p, w, rfl⟩ := this
    have q : Qr (.v (.bool (isFr (.tuple [.int p, .int w]) && (decide (0 ≤ p) && decide (p ≤ w) && decide (w ≤ 10000))))) := q
    simp [h] at q
    simp [rd_is_rate, qSeq, qIf, qRet, qSet, qAsg, qPar, qDrop, qNx, qRaise, qBk, qCt, qRetN, qAug, pER, pRE, pC, pName, pBin, pTest, pTru, strFit, truD, pAnd, pOr, pNot, pAndV, pOrV, pNotV, pIf, pChain, pNeg, pNil, pCons, pTup, pLst, pIxN, pCB, pCall, pcNil, pcCons, pcSrc, pcFz, pcExc, gtName, gtNil, gtCons, gtTup, gtTupX, gAdd, gMul, gI, gI0, gOrd, gIx, gLen, gInt, gI1, gI2, gGcd, slOf, enOf, begin_, seqAt, atMostOne, Sl.mut, pIsi, isD, isT, tyD, pLenN, pLst1, pLstRev, and_assoc, frzL, blkS, wipeS, toB, ptYes, qSetSrc, gEq, gNe, eqD, flatD, mixD, piSeq, piLst, piRng1, piRng2, piRng3, piFz, PD.gSub, PD.gDiv, PD.gMod, PD.gDivZ, PD.gModZ, PD.gLt, PD.gLe, PD.gGt, PD.gGe, PD.gPow, PD.gShr, PD.gXor, pSlice, pSliceFz, poNone, poSome, qPar3, gLeT, gTupC, pTupN, qSetIx, ownAt, setOwn, pSort, pDictIx, dVal, qSetOpn, qOpn, qPut, gIs, gIsNot, isN, pMt, gAppend, gPop, pChain3, piZip, piEnum, pSortI, pCat, pRep, pLstRg1, pLstRg2, pTupRg1, pInN, gIn, at_h0, at_h1, at_h2, at_h3, at_h4, at_h5, at_h6, at_h7, eqv_ii, eqv_ss, eqv_bb, eqv_is, eqv_si, eqv_nn, eqv_ni, eqv_in, eqv_bi, eqv_ib, sp_is_fraction, h, v_MOST_WHOLE, atI, ixN]
    by_cases c1 : 0 ≤ p <;> by_cases c2 : p ≤ w <;> simp [c1, c2] at q ⊢ <;> exact q
  · have q : Qr (.v (.bool false)) := by
      have : isRate d = false := by unfold isRate; simp [h]
      rwa [this] at q
    simp [rd_is_rate, qSeq, qIf, qRet, qSet, qAsg, qPar, qDrop, qNx, qRaise, qBk, qCt, qRetN, qAug, pER, pRE, pC, pName, pBin, pTest, pTru, strFit, truD, pAnd, pOr, pNot, pAndV, pOrV, pNotV, pIf, pChain, pNeg, pNil, pCons, pTup, pLst, pIxN, pCB, pCall, pcNil, pcCons, pcSrc, pcFz, pcExc, gtName, gtNil, gtCons, gtTup, gtTupX, gAdd, gMul, gI, gI0, gOrd, gIx, gLen, gInt, gI1, gI2, gGcd, slOf, enOf, begin_, seqAt, atMostOne, Sl.mut, pIsi, isD, isT, tyD, pLenN, pLst1, pLstRev, and_assoc, frzL, blkS, wipeS, toB, ptYes, qSetSrc, gEq, gNe, eqD, flatD, mixD, piSeq, piLst, piRng1, piRng2, piRng3, piFz, PD.gSub, PD.gDiv, PD.gMod, PD.gDivZ, PD.gModZ, PD.gLt, PD.gLe, PD.gGt, PD.gGe, PD.gPow, PD.gShr, PD.gXor, pSlice, pSliceFz, poNone, poSome, qPar3, gLeT, gTupC, pTupN, qSetIx, ownAt, setOwn, pSort, pDictIx, dVal, qSetOpn, qOpn, qPut, gIs, gIsNot, isN, pMt, gAppend, gPop, pChain3, piZip, piEnum, pSortI, pCat, pRep, pLstRg1, pLstRg2, pTupRg1, pInN, gIn, at_h0, at_h1, at_h2, at_h3, at_h4, at_h5, at_h6, at_h7, eqv_ii, eqv_ss, eqv_bb, eqv_is, eqv_si, eqv_nn, eqv_ni, eqv_in, eqv_bi, eqv_ib, sp_is_fraction, h]
    exact q
theorem fst_of {d : PyData} (h : isPair d = true) : ∃ n r, d = .tuple [.int n, r] ∧ fst d = n := by
  unfold isPair at h
  split at h
  · rename_i x r
    cases x with
    | int n => exact ⟨n, r, rfl, rfl⟩
    | _ => simp [isNum] at h
  · cases h
theorem pf_is_rates (X : XF K e [.O, .M, .N, .R, .T]) : ∀ as Qr Qe, sp_is_rates e as Qr Qe → rd_is_rates K e (enOf Qr Qe) (begin_ 3 as) := by
  rintro as Qr Qe ⟨d, rfl, q⟩
  cases d with
  | tuple ds =>
    by_cases hl : 1 ≤ ds.length ∧ ds.length ≤ 20
    · obtain ⟨h1, h2⟩ := hl
      have q : Qr (.v (.bool (decide (1 ≤ ds.length) && decide (ds.length ≤ 20) && ds.all isPair && fst (ds.getD 0 .none) == 0 && incr ds))) := q
      simp only [h1, h2, decide_true, Bool.true_and] at q
      unfold rd_is_rates
      refine seq_i fun k hk => ?_
      have i1 : (1 : Int) ≤ ds.length := by omega
      have i2 : (ds.length : Int) ≤ 20 := by omega
      simp [qSeq, qIf, qRet, qSet, qAsg, qPar, qDrop, qNx, qRaise, qBk, qCt, qRetN, qAug, pER, pRE, pC, pName, pBin, pTest, pTru, strFit, truD, pAnd, pOr, pNot, pAndV, pOrV, pNotV, pIf, pChain, pNeg, pNil, pCons, pTup, pLst, pIxN, pCB, pCall, pcNil, pcCons, pcSrc, pcFz, pcExc, gtName, gtNil, gtCons, gtTup, gtTupX, gAdd, gMul, gI, gI0, gOrd, gIx, gLen, gInt, gI1, gI2, gGcd, slOf, enOf, begin_, seqAt, atMostOne, Sl.mut, pIsi, isD, isT, tyD, pLenN, pLst1, pLstRev, and_assoc, frzL, blkS, wipeS, toB, ptYes, qSetSrc, gEq, gNe, eqD, flatD, mixD, piSeq, piLst, piRng1, piRng2, piRng3, piFz, PD.gSub, PD.gDiv, PD.gMod, PD.gDivZ, PD.gModZ, PD.gLt, PD.gLe, PD.gGt, PD.gGe, PD.gPow, PD.gShr, PD.gXor, pSlice, pSliceFz, poNone, poSome, qPar3, gLeT, gTupC, pTupN, qSetIx, ownAt, setOwn, pSort, pDictIx, dVal, qSetOpn, qOpn, qPut, gIs, gIsNot, isN, pMt, gAppend, gPop, pChain3, piZip, piEnum, pSortI, pCat, pRep, pLstRg1, pLstRg2, pTupRg1, pInN, gIn, at_h0, at_h1, at_h2, at_h3, at_h4, at_h5, at_h6, at_h7, eqv_ii, eqv_ss, eqv_bb, eqv_is, eqv_si, eqv_nn, eqv_ni, eqv_in, eqv_bi, eqv_ib, i1, i2]
      subst hk
      refine seq_i fun k hk => ?_
      refine for_chk _ ds isPair (fun x => [.v (.tuple ds), x, .un]) .un (.inr rfl) (fun x d N hd hN hb => ?_) (fun hg x => ?_) fun h => ?_
      · cases d with
        | tuple es =>
          match es with
          | [] => simp [qSeq, qIf, qRet, qSet, qAsg, qPar, qDrop, qNx, qRaise, qBk, qCt, qRetN, qAug, pER, pRE, pC, pName, pBin, pTest, pTru, strFit, truD, pAnd, pOr, pNot, pAndV, pOrV, pNotV, pIf, pChain, pNeg, pNil, pCons, pTup, pLst, pIxN, pCB, pCall, pcNil, pcCons, pcSrc, pcFz, pcExc, gtName, gtNil, gtCons, gtTup, gtTupX, gAdd, gMul, gI, gI0, gOrd, gIx, gLen, gInt, gI1, gI2, gGcd, slOf, enOf, begin_, seqAt, atMostOne, Sl.mut, pIsi, isD, isT, tyD, pLenN, pLst1, pLstRev, and_assoc, frzL, blkS, wipeS, toB, ptYes, qSetSrc, gEq, gNe, eqD, flatD, mixD, piSeq, piLst, piRng1, piRng2, piRng3, piFz, PD.gSub, PD.gDiv, PD.gMod, PD.gDivZ, PD.gModZ, PD.gLt, PD.gLe, PD.gGt, PD.gGe, PD.gPow, PD.gShr, PD.gXor, pSlice, pSliceFz, poNone, poSome, qPar3, gLeT, gTupC, pTupN, qSetIx, ownAt, setOwn, pSort, pDictIx, dVal, qSetOpn, qOpn, qPut, gIs, gIsNot, isN, pMt, gAppend, gPop, pChain3, piZip, piEnum, pSortI, pCat, pRep, pLstRg1, pLstRg2, pTupRg1, pInN, gIn, at_h0, at_h1, at_h2, at_h3, at_h4, at_h5, at_h6, at_h7, eqv_ii, eqv_ss, eqv_bb, eqv_is, eqv_si, eqv_nn, eqv_ni, eqv_in, eqv_bi, eqv_ib]; exact hb rfl
          | [a] => simp [qSeq, qIf, qRet, qSet, qAsg, qPar, qDrop, qNx, qRaise, qBk, qCt, qRetN, qAug, pER, pRE, pC, pName, pBin, pTest, pTru, strFit, truD, pAnd, pOr, pNot, pAndV, pOrV, pNotV, pIf, pChain, pNeg, pNil, pCons, pTup, pLst, pIxN, pCB, pCall, pcNil, pcCons, pcSrc, pcFz, pcExc, gtName, gtNil, gtCons, gtTup, gtTupX, gAdd, gMul, gI, gI0, gOrd, gIx, gLen, gInt, gI1, gI2, gGcd, slOf, enOf, begin_, seqAt, atMostOne, Sl.mut, pIsi, isD, isT, tyD, pLenN, pLst1, pLstRev, and_assoc, frzL, blkS, wipeS, toB, ptYes, qSetSrc, gEq, gNe, eqD, flatD, mixD, piSeq, piLst, piRng1, piRng2, piRng3, piFz, PD.gSub, PD.gDiv, PD.gMod, PD.gDivZ, PD.gModZ, PD.gLt, PD.gLe, PD.gGt, PD.gGe, PD.gPow, PD.gShr, PD.gXor, pSlice, pSliceFz, poNone, poSome, qPar3, gLeT, gTupC, pTupN, qSetIx, ownAt, setOwn, pSort, pDictIx, dVal, qSetOpn, qOpn, qPut, gIs, gIsNot, isN, pMt, gAppend, gPop, pChain3, piZip, piEnum, pSortI, pCat, pRep, pLstRg1, pLstRg2, pTupRg1, pInN, gIn, at_h0, at_h1, at_h2, at_h3, at_h4, at_h5, at_h6, at_h7, eqv_ii, eqv_ss, eqv_bb, eqv_is, eqv_si, eqv_nn, eqv_ni, eqv_in, eqv_bi, eqv_ib]; exact hb rfl
          | [a, b] =>
            have e : isPair (.tuple [a, b]) = (isNum a 0 1000000 && isRate b) := rfl
            rw [e] at hN hb
            simp [qSeq, qIf, qRet, qSet, qAsg, qPar, qDrop, qNx, qRaise, qBk, qCt, qRetN, qAug, pER, pRE, pC, pName, pBin, pTest, pTru, strFit, truD, pAnd, pOr, pNot, pAndV, pOrV, pNotV, pIf, pChain, pNeg, pNil, pCons, pTup, pLst, pIxN, pCB, pCall, pcNil, pcCons, pcSrc, pcFz, pcExc, gtName, gtNil, gtCons, gtTup, gtTupX, gAdd, gMul, gI, gI0, gOrd, gIx, gLen, gInt, gI1, gI2, gGcd, slOf, enOf, begin_, seqAt, atMostOne, Sl.mut, pIsi, isD, isT, tyD, pLenN, pLst1, pLstRev, and_assoc, frzL, blkS, wipeS, toB, ptYes, qSetSrc, gEq, gNe, eqD, flatD, mixD, piSeq, piLst, piRng1, piRng2, piRng3, piFz, PD.gSub, PD.gDiv, PD.gMod, PD.gDivZ, PD.gModZ, PD.gLt, PD.gLe, PD.gGt, PD.gGe, PD.gPow, PD.gShr, PD.gXor, pSlice, pSliceFz, poNone, poSome, qPar3, gLeT, gTupC, pTupN, qSetIx, ownAt, setOwn, pSort, pDictIx, dVal, qSetOpn, qOpn, qPut, gIs, gIsNot, isN, pMt, gAppend, gPop, pChain3, piZip, piEnum, pSortI, pCat, pRep, pLstRg1, pLstRg2, pTupRg1, pInN, gIn, at_h0, at_h1, at_h2, at_h3, at_h4, at_h5, at_h6, at_h7, eqv_ii, eqv_ss, eqv_bb, eqv_is, eqv_si, eqv_nn, eqv_ni, eqv_in, eqv_bi, eqv_ib, sp_is_day, sp_is_rate, atI, ixN]
            by_cases c1 : isNum a 0 1000000 = true <;> by_cases c2 : isRate b = true <;> simp [c1, c2] at hN hb ⊢ <;> first | exact hN | exact hb
          | a :: b :: c :: es =>
            have h2 : ¬ ((es.length : Int) + 1 + 1 + 1 = 2) := by omega
            simp [qSeq, qIf, qRet, qSet, qAsg, qPar, qDrop, qNx, qRaise, qBk, qCt, qRetN, qAug, pER, pRE, pC, pName, pBin, pTest, pTru, strFit, truD, pAnd, pOr, pNot, pAndV, pOrV, pNotV, pIf, pChain, pNeg, pNil, pCons, pTup, pLst, pIxN, pCB, pCall, pcNil, pcCons, pcSrc, pcFz, pcExc, gtName, gtNil, gtCons, gtTup, gtTupX, gAdd, gMul, gI, gI0, gOrd, gIx, gLen, gInt, gI1, gI2, gGcd, slOf, enOf, begin_, seqAt, atMostOne, Sl.mut, pIsi, isD, isT, tyD, pLenN, pLst1, pLstRev, and_assoc, frzL, blkS, wipeS, toB, ptYes, qSetSrc, gEq, gNe, eqD, flatD, mixD, piSeq, piLst, piRng1, piRng2, piRng3, piFz, PD.gSub, PD.gDiv, PD.gMod, PD.gDivZ, PD.gModZ, PD.gLt, PD.gLe, PD.gGt, PD.gGe, PD.gPow, PD.gShr, PD.gXor, pSlice, pSliceFz, poNone, poSome, qPar3, gLeT, gTupC, pTupN, qSetIx, ownAt, setOwn, pSort, pDictIx, dVal, qSetOpn, qOpn, qPut, gIs, gIsNot, isN, pMt, gAppend, gPop, pChain3, piZip, piEnum, pSortI, pCat, pRep, pLstRg1, pLstRg2, pTupRg1, pInN, gIn, at_h0, at_h1, at_h2, at_h3, at_h4, at_h5, at_h6, at_h7, eqv_ii, eqv_ss, eqv_bb, eqv_is, eqv_si, eqv_nn, eqv_ni, eqv_in, eqv_bi, eqv_ib, h2]
            exact hb rfl
        | _ => simp [qSeq, qIf, qRet, qSet, qAsg, qPar, qDrop, qNx, qRaise, qBk, qCt, qRetN, qAug, pER, pRE, pC, pName, pBin, pTest, pTru, strFit, truD, pAnd, pOr, pNot, pAndV, pOrV, pNotV, pIf, pChain, pNeg, pNil, pCons, pTup, pLst, pIxN, pCB, pCall, pcNil, pcCons, pcSrc, pcFz, pcExc, gtName, gtNil, gtCons, gtTup, gtTupX, gAdd, gMul, gI, gI0, gOrd, gIx, gLen, gInt, gI1, gI2, gGcd, slOf, enOf, begin_, seqAt, atMostOne, Sl.mut, pIsi, isD, isT, tyD, pLenN, pLst1, pLstRev, and_assoc, frzL, blkS, wipeS, toB, ptYes, qSetSrc, gEq, gNe, eqD, flatD, mixD, piSeq, piLst, piRng1, piRng2, piRng3, piFz, PD.gSub, PD.gDiv, PD.gMod, PD.gDivZ, PD.gModZ, PD.gLt, PD.gLe, PD.gGt, PD.gGe, PD.gPow, PD.gShr, PD.gXor, pSlice, pSliceFz, poNone, poSome, qPar3, gLeT, gTupC, pTupN, qSetIx, ownAt, setOwn, pSort, pDictIx, dVal, qSetOpn, qOpn, qPut, gIs, gIsNot, isN, pMt, gAppend, gPop, pChain3, piZip, piEnum, pSortI, pCat, pRep, pLstRg1, pLstRg2, pTupRg1, pInN, gIn, at_h0, at_h1, at_h2, at_h3, at_h4, at_h5, at_h6, at_h7, eqv_ii, eqv_ss, eqv_bb, eqv_is, eqv_si, eqv_nn, eqv_ni, eqv_in, eqv_bi, eqv_ib]; exact hb rfl
      · show k _
        subst hk
        rw [List.all_eq_true.mpr hg, Bool.true_and] at q
        have at0 : ∀ i : Nat, i < ds.length → ∃ n r, ds[i]? = some (.tuple [.int n, r]) ∧ fst (ds.getD i .none) = n := fun i hi => by
          obtain ⟨n, r, e, f⟩ := fst_of (hg ds[i] (List.getElem_mem hi))
          exact ⟨n, r, by rw [List.getElem?_eq_getElem hi, e], by rw [List.getD_eq_getElem?_getD, List.getElem?_eq_getElem hi]; exact f⟩
        obtain ⟨n0, r0, e0, f0⟩ := at0 0 (by omega)
        rw [f0] at q
        have a0 : atI ds 0 = some (.tuple [.int n0, r0]) := atI_nat (j := 0) e0
        simp [qSeq, qIf, qRet, qSet, qAsg, qPar, qDrop, qNx, qRaise, qBk, qCt, qRetN, qAug, pER, pRE, pC, pName, pBin, pTest, pTru, strFit, truD, pAnd, pOr, pNot, pAndV, pOrV, pNotV, pIf, pChain, pNeg, pNil, pCons, pTup, pLst, pIxN, pCB, pCall, pcNil, pcCons, pcSrc, pcFz, pcExc, gtName, gtNil, gtCons, gtTup, gtTupX, gAdd, gMul, gI, gI0, gOrd, gIx, gLen, gInt, gI1, gI2, gGcd, slOf, enOf, begin_, seqAt, atMostOne, Sl.mut, pIsi, isD, isT, tyD, pLenN, pLst1, pLstRev, and_assoc, frzL, blkS, wipeS, toB, ptYes, qSetSrc, gEq, gNe, eqD, flatD, mixD, piSeq, piLst, piRng1, piRng2, piRng3, piFz, PD.gSub, PD.gDiv, PD.gMod, PD.gDivZ, PD.gModZ, PD.gLt, PD.gLe, PD.gGt, PD.gGe, PD.gPow, PD.gShr, PD.gXor, pSlice, pSliceFz, poNone, poSome, qPar3, gLeT, gTupC, pTupN, qSetIx, ownAt, setOwn, pSort, pDictIx, dVal, qSetOpn, qOpn, qPut, gIs, gIsNot, isN, pMt, gAppend, gPop, pChain3, piZip, piEnum, pSortI, pCat, pRep, pLstRg1, pLstRg2, pTupRg1, pInN, gIn, at_h0, at_h1, at_h2, at_h3, at_h4, at_h5, at_h6, at_h7, eqv_ii, eqv_ss, eqv_bb, eqv_is, eqv_si, eqv_nn, eqv_ni, eqv_in, eqv_bi, eqv_ib, a0]
        by_cases c : n0 = 0
        · simp [c] at q ⊢
          refine gx_all (rngD 0 ((ds.length : Int) - 1).toNat) [.v (.tuple ds), x, .un] (fun d => match d with | .int i => decide (fst (ds.getD i.toNat .none) < fst (ds.getD (i.toNat + 1) .none)) | _ => false) (fun i d hd hp Y hY => ?_) ?_ ?_
          · obtain ⟨hi, rfl⟩ := rngD_get hd
            obtain ⟨n, r, e1, f1⟩ := at0 i (by omega)
            obtain ⟨m, s, e2, f2⟩ := at0 (i + 1) (by omega)
            have a1 : atI ds (i : Int) = some (.tuple [.int n, r]) := atI_nat e1
            have a2 : atI ds ((i : Int) + 1) = some (.tuple [.int m, s]) := by have := atI_nat e2; simpa using this
            have z : (0 : Int) + (i : Int) = (i : Int) := by omega
            rw [z] at hY ⊢
            have t : ((i : Int)).toNat = i := rfl
            simp only [t, f1, f2] at hY
            simp [qSeq, qIf, qRet, qSet, qAsg, qPar, qDrop, qNx, qRaise, qBk, qCt, qRetN, qAug, pER, pRE, pC, pName, pBin, pTest, pTru, strFit, truD, pAnd, pOr, pNot, pAndV, pOrV, pNotV, pIf, pChain, pNeg, pNil, pCons, pTup, pLst, pIxN, pCB, pCall, pcNil, pcCons, pcSrc, pcFz, pcExc, gtName, gtNil, gtCons, gtTup, gtTupX, gAdd, gMul, gI, gI0, gOrd, gIx, gLen, gInt, gI1, gI2, gGcd, slOf, enOf, begin_, seqAt, atMostOne, Sl.mut, pIsi, isD, isT, tyD, pLenN, pLst1, pLstRev, and_assoc, frzL, blkS, wipeS, toB, ptYes, qSetSrc, gEq, gNe, eqD, flatD, mixD, piSeq, piLst, piRng1, piRng2, piRng3, piFz, PD.gSub, PD.gDiv, PD.gMod, PD.gDivZ, PD.gModZ, PD.gLt, PD.gLe, PD.gGt, PD.gGe, PD.gPow, PD.gShr, PD.gXor, pSlice, pSliceFz, poNone, poSome, qPar3, gLeT, gTupC, pTupN, qSetIx, ownAt, setOwn, pSort, pDictIx, dVal, qSetOpn, qOpn, qPut, gIs, gIsNot, isN, pMt, gAppend, gPop, pChain3, piZip, piEnum, pSortI, pCat, pRep, pLstRg1, pLstRg2, pTupRg1, pInN, gIn, at_h0, at_h1, at_h2, at_h3, at_h4, at_h5, at_h6, at_h7, eqv_ii, eqv_ss, eqv_bb, eqv_is, eqv_si, eqv_nn, eqv_ni, eqv_in, eqv_bi, eqv_ib, a1, a2]
            exact hY _ rfl
          · have e : (rngD 0 ((ds.length : Int) - 1).toNat).all (fun d => match d with | .int i => decide (fst (ds.getD i.toNat .none) < fst (ds.getD (i.toNat + 1) .none)) | _ => false) = incr ds := by
              rw [all_rng]
              unfold incr
              have : ((ds.length : Int) - 1).toNat = ds.length - 1 := by omega
              rw [this]
              simp
            show Qr (.v (.bool _))
            rw [e]
            exact q
          · intro Q hQ
            simp [qSeq, qIf, qRet, qSet, qAsg, qPar, qDrop, qNx, qRaise, qBk, qCt, qRetN, qAug, pER, pRE, pC, pName, pBin, pTest, pTru, strFit, truD, pAnd, pOr, pNot, pAndV, pOrV, pNotV, pIf, pChain, pNeg, pNil, pCons, pTup, pLst, pIxN, pCB, pCall, pcNil, pcCons, pcSrc, pcFz, pcExc, gtName, gtNil, gtCons, gtTup, gtTupX, gAdd, gMul, gI, gI0, gOrd, gIx, gLen, gInt, gI1, gI2, gGcd, slOf, enOf, begin_, seqAt, atMostOne, Sl.mut, pIsi, isD, isT, tyD, pLenN, pLst1, pLstRev, and_assoc, frzL, blkS, wipeS, toB, ptYes, qSetSrc, gEq, gNe, eqD, flatD, mixD, piSeq, piLst, piRng1, piRng2, piRng3, piFz, PD.gSub, PD.gDiv, PD.gMod, PD.gDivZ, PD.gModZ, PD.gLt, PD.gLe, PD.gGt, PD.gGe, PD.gPow, PD.gShr, PD.gXor, pSlice, pSliceFz, poNone, poSome, qPar3, gLeT, gTupC, pTupN, qSetIx, ownAt, setOwn, pSort, pDictIx, dVal, qSetOpn, qOpn, qPut, gIs, gIsNot, isN, pMt, gAppend, gPop, pChain3, piZip, piEnum, pSortI, pCat, pRep, pLstRg1, pLstRg2, pTupRg1, pInN, gIn, at_h0, at_h1, at_h2, at_h3, at_h4, at_h5, at_h6, at_h7, eqv_ii, eqv_ss, eqv_bb, eqv_is, eqv_si, eqv_nn, eqv_ni, eqv_in, eqv_bi, eqv_ib]
            rw [show ((ds.length : Int) - 1).toNat = ds.length - 1 by omega] at hQ
            exact ⟨⟨by omega, by omega⟩, hQ⟩
        · have : (n0 == 0) = false := beq_eq_false_iff_ne.mpr c
          rw [this] at q
          simp [c]
          simpa using q
      · rw [h] at q
        simp at q
        exact q
    · have q : Qr (.v (.bool false)) := by
        have : isRates (.tuple ds) = false := by
          unfold isRates
          by_cases h1 : 1 ≤ ds.length
          · have h2 : ¬ ds.length ≤ 20 := fun z => hl ⟨h1, z⟩
            simp [h2]
          · simp [h1]
        rwa [this] at q
      unfold rd_is_rates
      refine seq_i fun k hk => ?_
      by_cases h1 : 1 ≤ ds.length
      · have h2 : ¬ (ds.length : Int) ≤ 20 := fun z => hl ⟨h1, by omega⟩
        have h1' : (1 : Int) ≤ ds.length := by omega
        simp [qSeq, qIf, qRet, qSet, qAsg, qPar, qDrop, qNx, qRaise, qBk, qCt, qRetN, qAug, pER, pRE, pC, pName, pBin, pTest, pTru, strFit, truD, pAnd, pOr, pNot, pAndV, pOrV, pNotV, pIf, pChain, pNeg, pNil, pCons, pTup, pLst, pIxN, pCB, pCall, pcNil, pcCons, pcSrc, pcFz, pcExc, gtName, gtNil, gtCons, gtTup, gtTupX, gAdd, gMul, gI, gI0, gOrd, gIx, gLen, gInt, gI1, gI2, gGcd, slOf, enOf, begin_, seqAt, atMostOne, Sl.mut, pIsi, isD, isT, tyD, pLenN, pLst1, pLstRev, and_assoc, frzL, blkS, wipeS, toB, ptYes, qSetSrc, gEq, gNe, eqD, flatD, mixD, piSeq, piLst, piRng1, piRng2, piRng3, piFz, PD.gSub, PD.gDiv, PD.gMod, PD.gDivZ, PD.gModZ, PD.gLt, PD.gLe, PD.gGt, PD.gGe, PD.gPow, PD.gShr, PD.gXor, pSlice, pSliceFz, poNone, poSome, qPar3, gLeT, gTupC, pTupN, qSetIx, ownAt, setOwn, pSort, pDictIx, dVal, qSetOpn, qOpn, qPut, gIs, gIsNot, isN, pMt, gAppend, gPop, pChain3, piZip, piEnum, pSortI, pCat, pRep, pLstRg1, pLstRg2, pTupRg1, pInN, gIn, at_h0, at_h1, at_h2, at_h3, at_h4, at_h5, at_h6, at_h7, eqv_ii, eqv_ss, eqv_bb, eqv_is, eqv_si, eqv_nn, eqv_ni, eqv_in, eqv_bi, eqv_ib, h1', h2]
        exact q
      · have h1' : ¬ (1 : Int) ≤ ds.length := by omega
        simp [qSeq, qIf, qRet, qSet, qAsg, qPar, qDrop, qNx, qRaise, qBk, qCt, qRetN, qAug, pER, pRE, pC, pName, pBin, pTest, pTru, strFit, truD, pAnd, pOr, pNot, pAndV, pOrV, pNotV, pIf, pChain, pNeg, pNil, pCons, pTup, pLst, pIxN, pCB, pCall, pcNil, pcCons, pcSrc, pcFz, pcExc, gtName, gtNil, gtCons, gtTup, gtTupX, gAdd, gMul, gI, gI0, gOrd, gIx, gLen, gInt, gI1, gI2, gGcd, slOf, enOf, begin_, seqAt, atMostOne, Sl.mut, pIsi, isD, isT, tyD, pLenN, pLst1, pLstRev, and_assoc, frzL, blkS, wipeS, toB, ptYes, qSetSrc, gEq, gNe, eqD, flatD, mixD, piSeq, piLst, piRng1, piRng2, piRng3, piFz, PD.gSub, PD.gDiv, PD.gMod, PD.gDivZ, PD.gModZ, PD.gLt, PD.gLe, PD.gGt, PD.gGe, PD.gPow, PD.gShr, PD.gXor, pSlice, pSliceFz, poNone, poSome, qPar3, gLeT, gTupC, pTupN, qSetIx, ownAt, setOwn, pSort, pDictIx, dVal, qSetOpn, qOpn, qPut, gIs, gIsNot, isN, pMt, gAppend, gPop, pChain3, piZip, piEnum, pSortI, pCat, pRep, pLstRg1, pLstRg2, pTupRg1, pInN, gIn, at_h0, at_h1, at_h2, at_h3, at_h4, at_h5, at_h6, at_h7, eqv_ii, eqv_ss, eqv_bb, eqv_is, eqv_si, eqv_nn, eqv_ni, eqv_in, eqv_bi, eqv_ib, h1']
        exact q
  | _ => simp [rd_is_rates, qSeq, qIf, qRet, qSet, qAsg, qPar, qDrop, qNx, qRaise, qBk, qCt, qRetN, qAug, pER, pRE, pC, pName, pBin, pTest, pTru, strFit, truD, pAnd, pOr, pNot, pAndV, pOrV, pNotV, pIf, pChain, pNeg, pNil, pCons, pTup, pLst, pIxN, pCB, pCall, pcNil, pcCons, pcSrc, pcFz, pcExc, gtName, gtNil, gtCons, gtTup, gtTupX, gAdd, gMul, gI, gI0, gOrd, gIx, gLen, gInt, gI1, gI2, gGcd, slOf, enOf, begin_, seqAt, atMostOne, Sl.mut, pIsi, isD, isT, tyD, pLenN, pLst1, pLstRev, and_assoc, frzL, blkS, wipeS, toB, ptYes, qSetSrc, gEq, gNe, eqD, flatD, mixD, piSeq, piLst, piRng1, piRng2, piRng3, piFz, PD.gSub, PD.gDiv, PD.gMod, PD.gDivZ, PD.gModZ, PD.gLt, PD.gLe, PD.gGt, PD.gGe, PD.gPow, PD.gShr, PD.gXor, pSlice, pSliceFz, poNone, poSome, qPar3, gLeT, gTupC, pTupN, qSetIx, ownAt, setOwn, pSort, pDictIx, dVal, qSetOpn, qOpn, qPut, gIs, gIsNot, isN, pMt, gAppend, gPop, pChain3, piZip, piEnum, pSortI, pCat, pRep, pLstRg1, pLstRg2, pTupRg1, pInN, gIn, at_h0, at_h1, at_h2, at_h3, at_h4, at_h5, at_h6, at_h7, eqv_ii, eqv_ss, eqv_bb, eqv_is, eqv_si, eqv_nn, eqv_ni, eqv_in, eqv_bi, eqv_ib]; exact q
end K48

set_option Elab.async false
set_option linter.all false
set_option maxRecDepth 100000
namespace K48
open PySem L2 PD
open Fr
variable {K : PySem.W.Frag} {e : Ec}
theorem rs_at {l : RS} {i : Nat} (h : i < l.length) : atI (l.map rowD) (i : Int) = some (.tuple [.int l[i].1, rt l[i].2]) := atI_nat (by rw [List.getElem?_map, List.getElem?_eq_getElem h]; rfl)
theorem rs_at1 {l : RS} {i : Nat} (h : i + 1 < l.length) : atI (l.map rowD) ((i : Int) + 1) = some (.tuple [.int l[i + 1].1, rt l[i + 1].2]) := by have := rs_at h; simpa using this
theorem Z_rate {r : Rat} (h0 : 0 ≤ r.num) (h1 : r.num ≤ r.den) (h2 : r.den ≤ 10000) : Z 14 r := by
  have : (2 : Nat) ^ 14 = 16384 := by decide
  exact ⟨by omega, by omega⟩
theorem rt_int (i : Int) : PyData.tuple [.int i, .int 1] = rt (i : Rat) := rfl
theorem rt_year : PyData.tuple [.int 1, .int 365] = rt (Rat.divInt 1 365) := rfl
theorem pf_interest (X : XF K e [.O, .M, .N, .R, .T]) : ∀ as Qr Qe, sp_interest e as Qr Qe → rd_interest K e (enOf Qr Qe) (begin_ 10 as) := by
  rintro as Qr Qe ⟨P, l, f, b, rfl, hP, hok, hlen, f0, f1, b0, b1, q0, q1⟩
  unfold rd_interest
  refine seq_i fun k hk => ?_
  by_cases hb : b < f
  · simp [qSeq, qIf, qRet, qSet, qAsg, qPar, qDrop, qNx, qRaise, qBk, qCt, qRetN, qAug, pER, pRE, pC, pName, pBin, pTest, pTru, strFit, truD, pAnd, pOr, pNot, pAndV, pOrV, pNotV, pIf, pChain, pNeg, pNil, pCons, pTup, pLst, pIxN, pCB, pCall, pcNil, pcCons, pcSrc, pcFz, pcExc, gtName, gtNil, gtCons, gtTup, gtTupX, gAdd, gMul, gI, gI0, gOrd, gIx, gLen, gInt, gI1, gI2, gGcd, slOf, enOf, begin_, seqAt, atMostOne, Sl.mut, pIsi, isD, isT, tyD, pLenN, pLst1, pLstRev, and_assoc, frzL, blkS, wipeS, toB, ptYes, qSetSrc, gEq, gNe, eqD, flatD, mixD, piSeq, piLst, piRng1, piRng2, piRng3, piFz, PD.gSub, PD.gDiv, PD.gMod, PD.gDivZ, PD.gModZ, PD.gLt, PD.gLe, PD.gGt, PD.gGe, PD.gPow, PD.gShr, PD.gXor, pSlice, pSliceFz, poNone, poSome, qPar3, gLeT, gTupC, pTupN, qSetIx, ownAt, setOwn, pSort, pDictIx, dVal, qSetOpn, qOpn, qPut, gIs, gIsNot, isN, pMt, gAppend, gPop, pChain3, piZip, piEnum, pSortI, pCat, pRep, pLstRg1, pLstRg2, pTupRg1, pInN, gIn, at_h0, at_h1, at_h2, at_h3, at_h4, at_h5, at_h6, at_h7, eqv_ii, eqv_ss, eqv_bb, eqv_is, eqv_si, eqv_nn, eqv_ni, eqv_in, eqv_bi, eqv_ib, hb]
    exact q0 hb
  · simp [qSeq, qIf, qRet, qSet, qAsg, qPar, qDrop, qNx, qRaise, qBk, qCt, qRetN, qAug, pER, pRE, pC, pName, pBin, pTest, pTru, strFit, truD, pAnd, pOr, pNot, pAndV, pOrV, pNotV, pIf, pChain, pNeg, pNil, pCons, pTup, pLst, pIxN, pCB, pCall, pcNil, pcCons, pcSrc, pcFz, pcExc, gtName, gtNil, gtCons, gtTup, gtTupX, gAdd, gMul, gI, gI0, gOrd, gIx, gLen, gInt, gI1, gI2, gGcd, slOf, enOf, begin_, seqAt, atMostOne, Sl.mut, pIsi, isD, isT, tyD, pLenN, pLst1, pLstRev, and_assoc, frzL, blkS, wipeS, toB, ptYes, qSetSrc, gEq, gNe, eqD, flatD, mixD, piSeq, piLst, piRng1, piRng2, piRng3, piFz, PD.gSub, PD.gDiv, PD.gMod, PD.gDivZ, PD.gModZ, PD.gLt, PD.gLe, PD.gGt, PD.gGe, PD.gPow, PD.gShr, PD.gXor, pSlice, pSliceFz, poNone, poSome, qPar3, gLeT, gTupC, pTupN, qSetIx, ownAt, setOwn, pSort, pDictIx, dVal, qSetOpn, qOpn, qPut, gIs, gIsNot, isN, pMt, gAppend, gPop, pChain3, piZip, piEnum, pSortI, pCat, pRep, pLstRg1, pLstRg2, pTupRg1, pInN, gIn, at_h0, at_h1, at_h2, at_h3, at_h4, at_h5, at_h6, at_h7, eqv_ii, eqv_ss, eqv_bb, eqv_is, eqv_si, eqv_nn, eqv_ni, eqv_in, eqv_bi, eqv_ib, hb]
    have q1 := q1 (by omega)
    subst hk
    refine seq_i fun k hk => ?_
    simp [qSeq, qIf, qRet, qSet, qAsg, qPar, qDrop, qNx, qRaise, qBk, qCt, qRetN, qAug, pER, pRE, pC, pName, pBin, pTest, pTru, strFit, truD, pAnd, pOr, pNot, pAndV, pOrV, pNotV, pIf, pChain, pNeg, pNil, pCons, pTup, pLst, pIxN, pCB, pCall, pcNil, pcCons, pcSrc, pcFz, pcExc, gtName, gtNil, gtCons, gtTup, gtTupX, gAdd, gMul, gI, gI0, gOrd, gIx, gLen, gInt, gI1, gI2, gGcd, slOf, enOf, begin_, seqAt, atMostOne, Sl.mut, pIsi, isD, isT, tyD, pLenN, pLst1, pLstRev, and_assoc, frzL, blkS, wipeS, toB, ptYes, qSetSrc, gEq, gNe, eqD, flatD, mixD, piSeq, piLst, piRng1, piRng2, piRng3, piFz, PD.gSub, PD.gDiv, PD.gMod, PD.gDivZ, PD.gModZ, PD.gLt, PD.gLe, PD.gGt, PD.gGe, PD.gPow, PD.gShr, PD.gXor, pSlice, pSliceFz, poNone, poSome, qPar3, gLeT, gTupC, pTupN, qSetIx, ownAt, setOwn, pSort, pDictIx, dVal, qSetOpn, qOpn, qPut, gIs, gIsNot, isN, pMt, gAppend, gPop, pChain3, piZip, piEnum, pSortI, pCat, pRep, pLstRg1, pLstRg2, pTupRg1, pInN, gIn, at_h0, at_h1, at_h2, at_h3, at_h4, at_h5, at_h6, at_h7, eqv_ii, eqv_ss, eqv_bb, eqv_is, eqv_si, eqv_nn, eqv_ni, eqv_in, eqv_bi, eqv_ib, v_NOUGHT]
    subst hk
    refine seq_i fun k hk => ?_
    refine for_rng l.length (fun i ρ => ∃ (W : Rat) (s_k s_begin s_rate s_end s_days : Sl), ρ = [.v (rt P), .v (rsD l), .v (.int f), .v (.int b), .v (rt W), s_k, s_begin, s_rate, s_end, s_days] ∧ W = Px l f b - Px (l.drop i) f b ∧ Z (36 * i + 1) W) ⟨by omega, by omega⟩ ⟨0, _, _, _, _, _, rfl, by rw [List.drop_zero]; grind, ⟨by decide, by decide⟩⟩ ?_ ?_ (by intro Q h; simp [qSeq, qIf, qRet, qSet, qAsg, qPar, qDrop, qNx, qRaise, qBk, qCt, qRetN, qAug, pER, pRE, pC, pName, pBin, pTest, pTru, strFit, truD, pAnd, pOr, pNot, pAndV, pOrV, pNotV, pIf, pChain, pNeg, pNil, pCons, pTup, pLst, pIxN, pCB, pCall, pcNil, pcCons, pcSrc, pcFz, pcExc, gtName, gtNil, gtCons, gtTup, gtTupX, gAdd, gMul, gI, gI0, gOrd, gIx, gLen, gInt, gI1, gI2, gGcd, slOf, enOf, begin_, seqAt, atMostOne, Sl.mut, pIsi, isD, isT, tyD, pLenN, pLst1, pLstRev, and_assoc, frzL, blkS, wipeS, toB, ptYes, qSetSrc, gEq, gNe, eqD, flatD, mixD, piSeq, piLst, piRng1, piRng2, piRng3, piFz, PD.gSub, PD.gDiv, PD.gMod, PD.gDivZ, PD.gModZ, PD.gLt, PD.gLe, PD.gGt, PD.gGe, PD.gPow, PD.gShr, PD.gXor, pSlice, pSliceFz, poNone, poSome, qPar3, gLeT, gTupC, pTupN, qSetIx, ownAt, setOwn, pSort, pDictIx, dVal, qSetOpn, qOpn, qPut, gIs, gIsNot, isN, pMt, gAppend, gPop, pChain3, piZip, piEnum, pSortI, pCat, pRep, pLstRg1, pLstRg2, pTupRg1, pInN, gIn, at_h0, at_h1, at_h2, at_h3, at_h4, at_h5, at_h6, at_h7, eqv_ii, eqv_ss, eqv_bb, eqv_is, eqv_si, eqv_nn, eqv_ni, eqv_in, eqv_bi, eqv_ib, rsD]; exact h)
    · rintro i ρ hi ⟨W, s_k, s_begin, s_rate, s_end, s_days, rfl, hW, hZ⟩
      have hi : i < l.length := by omega
      have h1 := rs_at hi
      obtain ⟨g0, g1, g2, g3, g4⟩ := hok _ (List.getElem_mem hi)
      have st := Px_step l i hi f b
      have stE : 0 ≤ nxt l i b ∧ nxt l i b ≤ 1000001 := by
        unfold nxt
        split
        · rename_i h2
          obtain ⟨a0, a1, _⟩ := hok _ (List.getElem_mem h2)
          omega
        · omega
      refine seq_i fun k2 hk2 => ?_
      simp [qSeq, qIf, qRet, qSet, qAsg, qPar, qDrop, qNx, qRaise, qBk, qCt, qRetN, qAug, pER, pRE, pC, pName, pBin, pTest, pTru, strFit, truD, pAnd, pOr, pNot, pAndV, pOrV, pNotV, pIf, pChain, pNeg, pNil, pCons, pTup, pLst, pIxN, pCB, pCall, pcNil, pcCons, pcSrc, pcFz, pcExc, gtName, gtNil, gtCons, gtTup, gtTupX, gAdd, gMul, gI, gI0, gOrd, gIx, gLen, gInt, gI1, gI2, gGcd, slOf, enOf, begin_, seqAt, atMostOne, Sl.mut, pIsi, isD, isT, tyD, pLenN, pLst1, pLstRev, and_assoc, frzL, blkS, wipeS, toB, ptYes, qSetSrc, gEq, gNe, eqD, flatD, mixD, piSeq, piLst, piRng1, piRng2, piRng3, piFz, PD.gSub, PD.gDiv, PD.gMod, PD.gDivZ, PD.gModZ, PD.gLt, PD.gLe, PD.gGt, PD.gGe, PD.gPow, PD.gShr, PD.gXor, pSlice, pSliceFz, poNone, poSome, qPar3, gLeT, gTupC, pTupN, qSetIx, ownAt, setOwn, pSort, pDictIx, dVal, qSetOpn, qOpn, qPut, gIs, gIsNot, isN, pMt, gAppend, gPop, pChain3, piZip, piEnum, pSortI, pCat, pRep, pLstRg1, pLstRg2, pTupRg1, pInN, gIn, at_h0, at_h1, at_h2, at_h3, at_h4, at_h5, at_h6, at_h7, eqv_ii, eqv_ss, eqv_bb, eqv_is, eqv_si, eqv_nn, eqv_ni, eqv_in, eqv_bi, eqv_ib, rsD, h1]
      subst hk2
      refine seq_i fun k2 hk2 => ?_
      suffices main : k2 [.v (rt P), .v (rsD l), .v (.int f), .v (.int b), .v (rt W), .v (.int i), .v (.int l[i].1), .v (rt l[i].2), .v (.int (nxt l i b)), s_days] by
        by_cases h2 : i + 1 < l.length
        · have e : nxt l i b = l[i + 1].1 := by unfold nxt; rw [dif_pos h2]
          rw [e] at main
          have h2' : (i : Int) + 1 < l.length := by omega
          simp [qSeq, qIf, qRet, qSet, qAsg, qPar, qDrop, qNx, qRaise, qBk, qCt, qRetN, qAug, pER, pRE, pC, pName, pBin, pTest, pTru, strFit, truD, pAnd, pOr, pNot, pAndV, pOrV, pNotV, pIf, pChain, pNeg, pNil, pCons, pTup, pLst, pIxN, pCB, pCall, pcNil, pcCons, pcSrc, pcFz, pcExc, gtName, gtNil, gtCons, gtTup, gtTupX, gAdd, gMul, gI, gI0, gOrd, gIx, gLen, gInt, gI1, gI2, gGcd, slOf, enOf, begin_, seqAt, atMostOne, Sl.mut, pIsi, isD, isT, tyD, pLenN, pLst1, pLstRev, and_assoc, frzL, blkS, wipeS, toB, ptYes, qSetSrc, gEq, gNe, eqD, flatD, mixD, piSeq, piLst, piRng1, piRng2, piRng3, piFz, PD.gSub, PD.gDiv, PD.gMod, PD.gDivZ, PD.gModZ, PD.gLt, PD.gLe, PD.gGt, PD.gGe, PD.gPow, PD.gShr, PD.gXor, pSlice, pSliceFz, poNone, poSome, qPar3, gLeT, gTupC, pTupN, qSetIx, ownAt, setOwn, pSort, pDictIx, dVal, qSetOpn, qOpn, qPut, gIs, gIsNot, isN, pMt, gAppend, gPop, pChain3, piZip, piEnum, pSortI, pCat, pRep, pLstRg1, pLstRg2, pTupRg1, pInN, gIn, at_h0, at_h1, at_h2, at_h3, at_h4, at_h5, at_h6, at_h7, eqv_ii, eqv_ss, eqv_bb, eqv_is, eqv_si, eqv_nn, eqv_ni, eqv_in, eqv_bi, eqv_ib, rsD, h2', rs_at1 h2]
          exact main
        · have e : nxt l i b = b := by unfold nxt; rw [dif_neg h2]
          rw [e] at main
          have h2' : ¬ (i : Int) + 1 < l.length := by omega
          simp [qSeq, qIf, qRet, qSet, qAsg, qPar, qDrop, qNx, qRaise, qBk, qCt, qRetN, qAug, pER, pRE, pC, pName, pBin, pTest, pTru, strFit, truD, pAnd, pOr, pNot, pAndV, pOrV, pNotV, pIf, pChain, pNeg, pNil, pCons, pTup, pLst, pIxN, pCB, pCall, pcNil, pcCons, pcSrc, pcFz, pcExc, gtName, gtNil, gtCons, gtTup, gtTupX, gAdd, gMul, gI, gI0, gOrd, gIx, gLen, gInt, gI1, gI2, gGcd, slOf, enOf, begin_, seqAt, atMostOne, Sl.mut, pIsi, isD, isT, tyD, pLenN, pLst1, pLstRev, and_assoc, frzL, blkS, wipeS, toB, ptYes, qSetSrc, gEq, gNe, eqD, flatD, mixD, piSeq, piLst, piRng1, piRng2, piRng3, piFz, PD.gSub, PD.gDiv, PD.gMod, PD.gDivZ, PD.gModZ, PD.gLt, PD.gLe, PD.gGt, PD.gGe, PD.gPow, PD.gShr, PD.gXor, pSlice, pSliceFz, poNone, poSome, qPar3, gLeT, gTupC, pTupN, qSetIx, ownAt, setOwn, pSort, pDictIx, dVal, qSetOpn, qOpn, qPut, gIs, gIsNot, isN, pMt, gAppend, gPop, pChain3, piZip, piEnum, pSortI, pCat, pRep, pLstRg1, pLstRg2, pTupRg1, pInN, gIn, at_h0, at_h1, at_h2, at_h3, at_h4, at_h5, at_h6, at_h7, eqv_ii, eqv_ss, eqv_bb, eqv_is, eqv_si, eqv_nn, eqv_ni, eqv_in, eqv_bi, eqv_ib, rsD, h2']
          exact main
      generalize nxt l i b = E at st stE
      subst hk2
      refine seq_i fun k2 hk2 => ?_
      have e1 : (if b < E then b else E) = min E b := by split <;> omega
      have e2 : (if f > l[i].1 then f else l[i].1) = max l[i].1 f := by split <;> omega
      simp [qSeq, qIf, qRet, qSet, qAsg, qPar, qDrop, qNx, qRaise, qBk, qCt, qRetN, qAug, pER, pRE, pC, pName, pBin, pTest, pTru, strFit, truD, pAnd, pOr, pNot, pAndV, pOrV, pNotV, pIf, pChain, pNeg, pNil, pCons, pTup, pLst, pIxN, pCB, pCall, pcNil, pcCons, pcSrc, pcFz, pcExc, gtName, gtNil, gtCons, gtTup, gtTupX, gAdd, gMul, gI, gI0, gOrd, gIx, gLen, gInt, gI1, gI2, gGcd, slOf, enOf, begin_, seqAt, atMostOne, Sl.mut, pIsi, isD, isT, tyD, pLenN, pLst1, pLstRev, and_assoc, frzL, blkS, wipeS, toB, ptYes, qSetSrc, gEq, gNe, eqD, flatD, mixD, piSeq, piLst, piRng1, piRng2, piRng3, piFz, PD.gSub, PD.gDiv, PD.gMod, PD.gDivZ, PD.gModZ, PD.gLt, PD.gLe, PD.gGt, PD.gGe, PD.gPow, PD.gShr, PD.gXor, pSlice, pSliceFz, poNone, poSome, qPar3, gLeT, gTupC, pTupN, qSetIx, ownAt, setOwn, pSort, pDictIx, dVal, qSetOpn, qOpn, qPut, gIs, gIsNot, isN, pMt, gAppend, gPop, pChain3, piZip, piEnum, pSortI, pCat, pRep, pLstRg1, pLstRg2, pTupRg1, pInN, gIn, at_h0, at_h1, at_h2, at_h3, at_h4, at_h5, at_h6, at_h7, eqv_ii, eqv_ss, eqv_bb, eqv_is, eqv_si, eqv_nn, eqv_ni, eqv_in, eqv_bi, eqv_ib, e1]
      rw [show (if l[i].1 < f then f else l[i].1) = max l[i].1 f by split <;> omega]
      subst hk2
      have hD : min E b - max l[i].1 f ≤ 1000001 := by omega
      generalize min E b - max l[i].1 f = D at *
      by_cases hd : 0 < D
      · have e3 : pos D = D := by unfold pos; omega
        rw [e3] at st
        have zd : Z 21 ((D : Int) : Rat) := Z_int (by rw [show (2 : Nat) ^ 21 = 2097152 by decide]; omega) (by decide)
        simp [qSeq, qIf, qRet, qSet, qAsg, qPar, qDrop, qNx, qRaise, qBk, qCt, qRetN, qAug, pER, pRE, pC, pName, pBin, pTest, pTru, strFit, truD, pAnd, pOr, pNot, pAndV, pOrV, pNotV, pIf, pChain, pNeg, pNil, pCons, pTup, pLst, pIxN, pCB, pCall, pcNil, pcCons, pcSrc, pcFz, pcExc, gtName, gtNil, gtCons, gtTup, gtTupX, gAdd, gMul, gI, gI0, gOrd, gIx, gLen, gInt, gI1, gI2, gGcd, slOf, enOf, begin_, seqAt, atMostOne, Sl.mut, pIsi, isD, isT, tyD, pLenN, pLst1, pLstRev, and_assoc, frzL, blkS, wipeS, toB, ptYes, qSetSrc, gEq, gNe, eqD, flatD, mixD, piSeq, piLst, piRng1, piRng2, piRng3, piFz, PD.gSub, PD.gDiv, PD.gMod, PD.gDivZ, PD.gModZ, PD.gLt, PD.gLe, PD.gGt, PD.gGe, PD.gPow, PD.gShr, PD.gXor, pSlice, pSliceFz, poNone, poSome, qPar3, gLeT, gTupC, pTupN, qSetIx, ownAt, setOwn, pSort, pDictIx, dVal, qSetOpn, qOpn, qPut, gIs, gIsNot, isN, pMt, gAppend, gPop, pChain3, piZip, piEnum, pSortI, pCat, pRep, pLstRg1, pLstRg2, pTupRg1, pInN, gIn, at_h0, at_h1, at_h2, at_h3, at_h4, at_h5, at_h6, at_h7, eqv_ii, eqv_ss, eqv_bb, eqv_is, eqv_si, eqv_nn, eqv_ni, eqv_in, eqv_bi, eqv_ib, hd]
        have zr := Z_rate g2 g3 g4
        refine ⟨szn 2, l[i].2, (D : Rat), rfl, zr.mono (by decide), zd.mono (by decide), W, _, rfl, hZ.mono (by omega), (Z_mul zr zd).mono (by decide), _, rfl, ?_, (Z_add hZ (Z_mul zr zd)).mono (by omega)⟩
        grind
      · have e3 : pos D = 0 := by unfold pos; omega
        rw [e3] at st
        simp [qSeq, qIf, qRet, qSet, qAsg, qPar, qDrop, qNx, qRaise, qBk, qCt, qRetN, qAug, pER, pRE, pC, pName, pBin, pTest, pTru, strFit, truD, pAnd, pOr, pNot, pAndV, pOrV, pNotV, pIf, pChain, pNeg, pNil, pCons, pTup, pLst, pIxN, pCB, pCall, pcNil, pcCons, pcSrc, pcFz, pcExc, gtName, gtNil, gtCons, gtTup, gtTupX, gAdd, gMul, gI, gI0, gOrd, gIx, gLen, gInt, gI1, gI2, gGcd, slOf, enOf, begin_, seqAt, atMostOne, Sl.mut, pIsi, isD, isT, tyD, pLenN, pLst1, pLstRev, and_assoc, frzL, blkS, wipeS, toB, ptYes, qSetSrc, gEq, gNe, eqD, flatD, mixD, piSeq, piLst, piRng1, piRng2, piRng3, piFz, PD.gSub, PD.gDiv, PD.gMod, PD.gDivZ, PD.gModZ, PD.gLt, PD.gLe, PD.gGt, PD.gGe, PD.gPow, PD.gShr, PD.gXor, pSlice, pSliceFz, poNone, poSome, qPar3, gLeT, gTupC, pTupN, qSetIx, ownAt, setOwn, pSort, pDictIx, dVal, qSetOpn, qOpn, qPut, gIs, gIsNot, isN, pMt, gAppend, gPop, pChain3, piZip, piEnum, pSortI, pCat, pRep, pLstRg1, pLstRg2, pTupRg1, pInN, gIn, at_h0, at_h1, at_h2, at_h3, at_h4, at_h5, at_h6, at_h7, eqv_ii, eqv_ss, eqv_bb, eqv_is, eqv_si, eqv_nn, eqv_ni, eqv_in, eqv_bi, eqv_ib, hd]
        refine ⟨W, rfl, ?_, hZ.mono (by omega)⟩
        have : ((0 : Int) : Rat) = 0 := rfl
        grind
    · rintro ρ ⟨W, s_k, s_begin, s_rate, s_end, s_days, rfl, hW, hZ⟩
      show k _
      subst hk
      have eW : W = Px l f b := by
        rw [hW, List.drop_eq_nil_of_le (by simp)]
        simp only [Px]
        grind
      have hZ : Z 800 W := hZ.mono (by simp; omega)
      simp [qSeq, qIf, qRet, qSet, qAsg, qPar, qDrop, qNx, qRaise, qBk, qCt, qRetN, qAug, pER, pRE, pC, pName, pBin, pTest, pTru, strFit, truD, pAnd, pOr, pNot, pAndV, pOrV, pNotV, pIf, pChain, pNeg, pNil, pCons, pTup, pLst, pIxN, pCB, pCall, pcNil, pcCons, pcSrc, pcFz, pcExc, gtName, gtNil, gtCons, gtTup, gtTupX, gAdd, gMul, gI, gI0, gOrd, gIx, gLen, gInt, gI1, gI2, gGcd, slOf, enOf, begin_, seqAt, atMostOne, Sl.mut, pIsi, isD, isT, tyD, pLenN, pLst1, pLstRev, and_assoc, frzL, blkS, wipeS, toB, ptYes, qSetSrc, gEq, gNe, eqD, flatD, mixD, piSeq, piLst, piRng1, piRng2, piRng3, piFz, PD.gSub, PD.gDiv, PD.gMod, PD.gDivZ, PD.gModZ, PD.gLt, PD.gLe, PD.gGt, PD.gGe, PD.gPow, PD.gShr, PD.gXor, pSlice, pSliceFz, poNone, poSome, qPar3, gLeT, gTupC, pTupN, qSetIx, ownAt, setOwn, pSort, pDictIx, dVal, qSetOpn, qOpn, qPut, gIs, gIsNot, isN, pMt, gAppend, gPop, pChain3, piZip, piEnum, pSortI, pCat, pRep, pLstRg1, pLstRg2, pTupRg1, pInN, gIn, at_h0, at_h1, at_h2, at_h3, at_h4, at_h5, at_h6, at_h7, eqv_ii, eqv_ss, eqv_bb, eqv_is, eqv_si, eqv_nn, eqv_ni, eqv_in, eqv_bi, eqv_ib, v_YEAR]
      refine ⟨P, W, rfl, hP.mono (by decide), hZ.mono (by decide), szn 2, _, Rat.divInt 1 365, rfl, (Z_mul hP hZ).mono (by decide), ?_, ?_⟩
      · exact ⟨by decide, by decide⟩
      · rw [eW]
        exact q1
theorem pf__law_rate (X : XF K e [.O, .M, .N, .R, .T]) : ∀ as Qr Qe, sp__law_rate e as Qr Qe → rd__law_rate K e (enOf Qr Qe) (begin_ 4 as) := by
  rintro as Qr Qe ⟨l, x, rfl, hl, hx, q⟩
  unfold rd__law_rate
  obtain ⟨r, t, e⟩ := hl.hd
  have last := rho_last l 0 r t e hl.up x hx
  simp only [qSeq, qIf, qRet, qSet, qAsg, qPar, qDrop, qNx, qRaise, qBk, qCt, qRetN, qAug, pER, pRE, pC, pName, pBin, pTest, pTru, strFit, truD, pAnd, pOr, pNot, pAndV, pOrV, pNotV, pIf, pChain, pNeg, pNil, pCons, pTup, pLst, pIxN, pCB, pCall, pcNil, pcCons, pcSrc, pcFz, pcExc, gtName, gtNil, gtCons, gtTup, gtTupX, gAdd, gMul, gI, gI0, gOrd, gIx, gLen, gInt, gI1, gI2, gGcd, slOf, enOf, begin_, seqAt, atMostOne, Sl.mut, pIsi, isD, isT, tyD, pLenN, pLst1, pLstRev, and_assoc, frzL, blkS, wipeS, toB, ptYes, qSetSrc, gEq, gNe, eqD, flatD, mixD, piSeq, piLst, piRng1, piRng2, piRng3, piFz, PD.gSub, PD.gDiv, PD.gMod, PD.gDivZ, PD.gModZ, PD.gLt, PD.gLe, PD.gGt, PD.gGe, PD.gPow, PD.gShr, PD.gXor, pSlice, pSliceFz, poNone, poSome, qPar3, gLeT, gTupC, pTupN, qSetIx, ownAt, setOwn, pSort, pDictIx, dVal, qSetOpn, qOpn, qPut, gIs, gIsNot, isN, pMt, gAppend, gPop, pChain3, piZip, piEnum, pSortI, pCat, pRep, pLstRg1, pLstRg2, pTupRg1, pInN, gIn, at_h0, at_h1, at_h2, at_h3, at_h4, at_h5, at_h6, at_h7, eqv_ii, eqv_ss, eqv_bb, eqv_is, eqv_si, eqv_nn, eqv_ni, eqv_in, eqv_bi, eqv_ib]
  refine lc_fm (l.map rowD) _ (fun d => match d with | .tuple [.int n, y] => if n ≤ x then some y else none | _ => none) (by rw [List.length_map]; exact szl (by have := hl.len; omega)) (fun d hd Y N hY hN => ?_) ?_
  · obtain ⟨p, hp, rfl⟩ := List.mem_map.mp hd
    unfold rowD at hY hN ⊢
    by_cases c : p.1 ≤ x
    · simp [qSeq, qIf, qRet, qSet, qAsg, qPar, qDrop, qNx, qRaise, qBk, qCt, qRetN, qAug, pER, pRE, pC, pName, pBin, pTest, pTru, strFit, truD, pAnd, pOr, pNot, pAndV, pOrV, pNotV, pIf, pChain, pNeg, pNil, pCons, pTup, pLst, pIxN, pCB, pCall, pcNil, pcCons, pcSrc, pcFz, pcExc, gtName, gtNil, gtCons, gtTup, gtTupX, gAdd, gMul, gI, gI0, gOrd, gIx, gLen, gInt, gI1, gI2, gGcd, slOf, enOf, begin_, seqAt, atMostOne, Sl.mut, pIsi, isD, isT, tyD, pLenN, pLst1, pLstRev, and_assoc, frzL, blkS, wipeS, toB, ptYes, qSetSrc, gEq, gNe, eqD, flatD, mixD, piSeq, piLst, piRng1, piRng2, piRng3, piFz, PD.gSub, PD.gDiv, PD.gMod, PD.gDivZ, PD.gModZ, PD.gLt, PD.gLe, PD.gGt, PD.gGe, PD.gPow, PD.gShr, PD.gXor, pSlice, pSliceFz, poNone, poSome, qPar3, gLeT, gTupC, pTupN, qSetIx, ownAt, setOwn, pSort, pDictIx, dVal, qSetOpn, qOpn, qPut, gIs, gIsNot, isN, pMt, gAppend, gPop, pChain3, piZip, piEnum, pSortI, pCat, pRep, pLstRg1, pLstRg2, pTupRg1, pInN, gIn, at_h0, at_h1, at_h2, at_h3, at_h4, at_h5, at_h6, at_h7, eqv_ii, eqv_ss, eqv_bb, eqv_is, eqv_si, eqv_nn, eqv_ni, eqv_in, eqv_bi, eqv_ib, c]
      exact hY _ _ (by simp [c]) rfl
    · simp [qSeq, qIf, qRet, qSet, qAsg, qPar, qDrop, qNx, qRaise, qBk, qCt, qRetN, qAug, pER, pRE, pC, pName, pBin, pTest, pTru, strFit, truD, pAnd, pOr, pNot, pAndV, pOrV, pNotV, pIf, pChain, pNeg, pNil, pCons, pTup, pLst, pIxN, pCB, pCall, pcNil, pcCons, pcSrc, pcFz, pcExc, gtName, gtNil, gtCons, gtTup, gtTupX, gAdd, gMul, gI, gI0, gOrd, gIx, gLen, gInt, gI1, gI2, gGcd, slOf, enOf, begin_, seqAt, atMostOne, Sl.mut, pIsi, isD, isT, tyD, pLenN, pLst1, pLstRev, and_assoc, frzL, blkS, wipeS, toB, ptYes, qSetSrc, gEq, gNe, eqD, flatD, mixD, piSeq, piLst, piRng1, piRng2, piRng3, piFz, PD.gSub, PD.gDiv, PD.gMod, PD.gDivZ, PD.gModZ, PD.gLt, PD.gLe, PD.gGt, PD.gGe, PD.gPow, PD.gShr, PD.gXor, pSlice, pSliceFz, poNone, poSome, qPar3, gLeT, gTupC, pTupN, qSetIx, ownAt, setOwn, pSort, pDictIx, dVal, qSetOpn, qOpn, qPut, gIs, gIsNot, isN, pMt, gAppend, gPop, pChain3, piZip, piEnum, pSortI, pCat, pRep, pLstRg1, pLstRg2, pTupRg1, pInN, gIn, at_h0, at_h1, at_h2, at_h3, at_h4, at_h5, at_h6, at_h7, eqv_ii, eqv_ss, eqv_bb, eqv_is, eqv_si, eqv_nn, eqv_ni, eqv_in, eqv_bi, eqv_ib, c]
      exact hN _ (by simp [c]) rfl
  · have ef : ((l.map rowD).filterMap fun d => match d with | .tuple [.int n, y] => if n ≤ x then some y else none | _ => none) = (l.filter fun p => decide (p.1 ≤ x)).map fun p => rt p.2 := by
      clear last e hl q
      induction l with
      | nil => rfl
      | cons p l ih =>
        rw [List.map_cons, List.filterMap_cons]
        by_cases c : p.1 ≤ x
        · simp [rowD, c, ih]
        · simp [rowD, c, ih]
    rw [ef]
    cases hf : (l.filter fun p => decide (p.1 ≤ x)).getLast? with
    | none => rw [hf] at last; cases last
    | some p =>
      rw [hf] at last
      have lp : p.2 = rho l x := Option.some.inj last
      obtain ⟨u, hu⟩ : ∃ u, (l.filter fun p => decide (p.1 ≤ x)) = u ++ [p] := by
        rw [List.getLast?_eq_some_iff] at hf
        exact hf
      rw [hu]
      refine ⟨rt p.2, by rw [List.map_append]; exact at_last, ?_⟩
      rw [lp]
      exact q
end K48

set_option Elab.async false
set_option linter.all false
set_option maxRecDepth 100000
namespace K48
open PySem L2 PD
open Fr
variable {K : PySem.W.Frag} {e : Ec}
theorem wdN {i : Int} (n : Nat) (hn : n ≤ 9000) (h : i.natAbs < 2 ^ n) : Wd i := wdP n hn h
theorem nat_cast_mul (a b : Int) : ((a * b : Int) : Rat) = (a : Rat) * (b : Rat) := Rat.intCast_mul a b
theorem int_cast_add (a b : Int) : ((a + b : Int) : Rat) = (a : Rat) + (b : Rat) := Rat.intCast_add a b
theorem pf__law_up_to (X : XF K e [.O, .M, .N, .R, .T]) : ∀ as Qr Qe, sp__law_up_to e as Qr Qe → rd__law_up_to K e (enOf Qr Qe) (begin_ 9 as) := by
  rintro as Qr Qe ⟨l, x, rfl, hl, hx, hx1, q⟩
  unfold rd__law_up_to
  refine seq_i fun k hk => ?_
  simp [qSeq, qIf, qRet, qSet, qAsg, qPar, qDrop, qNx, qRaise, qBk, qCt, qRetN, qAug, pER, pRE, pC, pName, pBin, pTest, pTru, strFit, truD, pAnd, pOr, pNot, pAndV, pOrV, pNotV, pIf, pChain, pNeg, pNil, pCons, pTup, pLst, pIxN, pCB, pCall, pcNil, pcCons, pcSrc, pcFz, pcExc, gtName, gtNil, gtCons, gtTup, gtTupX, gAdd, gMul, gI, gI0, gOrd, gIx, gLen, gInt, gI1, gI2, gGcd, slOf, enOf, begin_, seqAt, atMostOne, Sl.mut, pIsi, isD, isT, tyD, pLenN, pLst1, pLstRev, and_assoc, frzL, blkS, wipeS, toB, ptYes, qSetSrc, gEq, gNe, eqD, flatD, mixD, piSeq, piLst, piRng1, piRng2, piRng3, piFz, PD.gSub, PD.gDiv, PD.gMod, PD.gDivZ, PD.gModZ, PD.gLt, PD.gLe, PD.gGt, PD.gGe, PD.gPow, PD.gShr, PD.gXor, pSlice, pSliceFz, poNone, poSome, qPar3, gLeT, gTupC, pTupN, qSetIx, ownAt, setOwn, pSort, pDictIx, dVal, qSetOpn, qOpn, qPut, gIs, gIsNot, isN, pMt, gAppend, gPop, pChain3, piZip, piEnum, pSortI, pCat, pRep, pLstRg1, pLstRg2, pTupRg1, pInN, gIn, at_h0, at_h1, at_h2, at_h3, at_h4, at_h5, at_h6, at_h7, eqv_ii, eqv_ss, eqv_bb, eqv_is, eqv_si, eqv_nn, eqv_ni, eqv_in, eqv_bi, eqv_ib]
  subst hk
  refine seq_i fun k hk => ?_
  simp [qSeq, qIf, qRet, qSet, qAsg, qPar, qDrop, qNx, qRaise, qBk, qCt, qRetN, qAug, pER, pRE, pC, pName, pBin, pTest, pTru, strFit, truD, pAnd, pOr, pNot, pAndV, pOrV, pNotV, pIf, pChain, pNeg, pNil, pCons, pTup, pLst, pIxN, pCB, pCall, pcNil, pcCons, pcSrc, pcFz, pcExc, gtName, gtNil, gtCons, gtTup, gtTupX, gAdd, gMul, gI, gI0, gOrd, gIx, gLen, gInt, gI1, gI2, gGcd, slOf, enOf, begin_, seqAt, atMostOne, Sl.mut, pIsi, isD, isT, tyD, pLenN, pLst1, pLstRev, and_assoc, frzL, blkS, wipeS, toB, ptYes, qSetSrc, gEq, gNe, eqD, flatD, mixD, piSeq, piLst, piRng1, piRng2, piRng3, piFz, PD.gSub, PD.gDiv, PD.gMod, PD.gDivZ, PD.gModZ, PD.gLt, PD.gLe, PD.gGt, PD.gGe, PD.gPow, PD.gShr, PD.gXor, pSlice, pSliceFz, poNone, poSome, qPar3, gLeT, gTupC, pTupN, qSetIx, ownAt, setOwn, pSort, pDictIx, dVal, qSetOpn, qOpn, qPut, gIs, gIsNot, isN, pMt, gAppend, gPop, pChain3, piZip, piEnum, pSortI, pCat, pRep, pLstRg1, pLstRg2, pTupRg1, pInN, gIn, at_h0, at_h1, at_h2, at_h3, at_h4, at_h5, at_h6, at_h7, eqv_ii, eqv_ss, eqv_bb, eqv_is, eqv_si, eqv_nn, eqv_ni, eqv_in, eqv_bi, eqv_ib]
  subst hk
  refine seq_i fun k hk => ?_
  have hlen := hl.len
  refine for_rng l.length (fun i ρ => ∃ (p w : Int) (s_k s_first s_rate s_last s_many : Sl), ρ = [.v (rsD l), .v (.int x), .v (.int p), .v (.int w), s_k, s_first, s_rate, s_last, s_many] ∧ 0 < w ∧ w.natAbs < 2 ^ (14 * i + 1) ∧ 0 ≤ p ∧ p ≤ i * 1048576 * w ∧ (p : Rat) = (Ux l x - Ux (l.drop i) x) * w)
    ⟨by omega, by omega⟩ ⟨0, 1, _, _, _, _, _, rfl, by decide, by decide, by decide, by decide, by rw [List.drop_zero]; simp; grind⟩ ?_ ?_ (by intro Q h; simp [qSeq, qIf, qRet, qSet, qAsg, qPar, qDrop, qNx, qRaise, qBk, qCt, qRetN, qAug, pER, pRE, pC, pName, pBin, pTest, pTru, strFit, truD, pAnd, pOr, pNot, pAndV, pOrV, pNotV, pIf, pChain, pNeg, pNil, pCons, pTup, pLst, pIxN, pCB, pCall, pcNil, pcCons, pcSrc, pcFz, pcExc, gtName, gtNil, gtCons, gtTup, gtTupX, gAdd, gMul, gI, gI0, gOrd, gIx, gLen, gInt, gI1, gI2, gGcd, slOf, enOf, begin_, seqAt, atMostOne, Sl.mut, pIsi, isD, isT, tyD, pLenN, pLst1, pLstRev, and_assoc, frzL, blkS, wipeS, toB, ptYes, qSetSrc, gEq, gNe, eqD, flatD, mixD, piSeq, piLst, piRng1, piRng2, piRng3, piFz, PD.gSub, PD.gDiv, PD.gMod, PD.gDivZ, PD.gModZ, PD.gLt, PD.gLe, PD.gGt, PD.gGe, PD.gPow, PD.gShr, PD.gXor, pSlice, pSliceFz, poNone, poSome, qPar3, gLeT, gTupC, pTupN, qSetIx, ownAt, setOwn, pSort, pDictIx, dVal, qSetOpn, qOpn, qPut, gIs, gIsNot, isN, pMt, gAppend, gPop, pChain3, piZip, piEnum, pSortI, pCat, pRep, pLstRg1, pLstRg2, pTupRg1, pInN, gIn, at_h0, at_h1, at_h2, at_h3, at_h4, at_h5, at_h6, at_h7, eqv_ii, eqv_ss, eqv_bb, eqv_is, eqv_si, eqv_nn, eqv_ni, eqv_in, eqv_bi, eqv_ib, rsD]; exact h)
  · rintro i ρ hi ⟨p, w, s_k, s_first, s_rate, s_last, s_many, rfl, w0, w1, p0, p1, hp⟩
    have hi : i < l.length := by omega
    have h1 := rs_at hi
    obtain ⟨g0, g1, g2, g3, g4⟩ := hl.ok _ (List.getElem_mem hi)
    have st := Ux_step l i hi x
    refine seq_i fun k2 hk2 => ?_
    simp [qSeq, qIf, qRet, qSet, qAsg, qPar, qDrop, qNx, qRaise, qBk, qCt, qRetN, qAug, pER, pRE, pC, pName, pBin, pTest, pTru, strFit, truD, pAnd, pOr, pNot, pAndV, pOrV, pNotV, pIf, pChain, pNeg, pNil, pCons, pTup, pLst, pIxN, pCB, pCall, pcNil, pcCons, pcSrc, pcFz, pcExc, gtName, gtNil, gtCons, gtTup, gtTupX, gAdd, gMul, gI, gI0, gOrd, gIx, gLen, gInt, gI1, gI2, gGcd, slOf, enOf, begin_, seqAt, atMostOne, Sl.mut, pIsi, isD, isT, tyD, pLenN, pLst1, pLstRev, and_assoc, frzL, blkS, wipeS, toB, ptYes, qSetSrc, gEq, gNe, eqD, flatD, mixD, piSeq, piLst, piRng1, piRng2, piRng3, piFz, PD.gSub, PD.gDiv, PD.gMod, PD.gDivZ, PD.gModZ, PD.gLt, PD.gLe, PD.gGt, PD.gGe, PD.gPow, PD.gShr, PD.gXor, pSlice, pSliceFz, poNone, poSome, qPar3, gLeT, gTupC, pTupN, qSetIx, ownAt, setOwn, pSort, pDictIx, dVal, qSetOpn, qOpn, qPut, gIs, gIsNot, isN, pMt, gAppend, gPop, pChain3, piZip, piEnum, pSortI, pCat, pRep, pLstRg1, pLstRg2, pTupRg1, pInN, gIn, at_h0, at_h1, at_h2, at_h3, at_h4, at_h5, at_h6, at_h7, eqv_ii, eqv_ss, eqv_bb, eqv_is, eqv_si, eqv_nn, eqv_ni, eqv_in, eqv_bi, eqv_ib, rsD, h1]
    subst hk2
    refine seq_i fun k2 hk2 => ?_
    suffices main : k2 [.v (rsD l), .v (.int x), .v (.int p), .v (.int w), .v (.int i), .v (.int l[i].1), .v (rt l[i].2), .v (.int (min x (nxt l i x))), s_many] by
      by_cases h2 : i + 1 < l.length
      · have e : nxt l i x = l[i + 1].1 := by unfold nxt; rw [dif_pos h2]
        rw [e] at main
        have h2' : (i : Int) + 1 < l.length := by omega
        simp [qSeq, qIf, qRet, qSet, qAsg, qPar, qDrop, qNx, qRaise, qBk, qCt, qRetN, qAug, pER, pRE, pC, pName, pBin, pTest, pTru, strFit, truD, pAnd, pOr, pNot, pAndV, pOrV, pNotV, pIf, pChain, pNeg, pNil, pCons, pTup, pLst, pIxN, pCB, pCall, pcNil, pcCons, pcSrc, pcFz, pcExc, gtName, gtNil, gtCons, gtTup, gtTupX, gAdd, gMul, gI, gI0, gOrd, gIx, gLen, gInt, gI1, gI2, gGcd, slOf, enOf, begin_, seqAt, atMostOne, Sl.mut, pIsi, isD, isT, tyD, pLenN, pLst1, pLstRev, and_assoc, frzL, blkS, wipeS, toB, ptYes, qSetSrc, gEq, gNe, eqD, flatD, mixD, piSeq, piLst, piRng1, piRng2, piRng3, piFz, PD.gSub, PD.gDiv, PD.gMod, PD.gDivZ, PD.gModZ, PD.gLt, PD.gLe, PD.gGt, PD.gGe, PD.gPow, PD.gShr, PD.gXor, pSlice, pSliceFz, poNone, poSome, qPar3, gLeT, gTupC, pTupN, qSetIx, ownAt, setOwn, pSort, pDictIx, dVal, qSetOpn, qOpn, qPut, gIs, gIsNot, isN, pMt, gAppend, gPop, pChain3, piZip, piEnum, pSortI, pCat, pRep, pLstRg1, pLstRg2, pTupRg1, pInN, gIn, at_h0, at_h1, at_h2, at_h3, at_h4, at_h5, at_h6, at_h7, eqv_ii, eqv_ss, eqv_bb, eqv_is, eqv_si, eqv_nn, eqv_ni, eqv_in, eqv_bi, eqv_ib, rsD, h2', rs_at1 h2]
        rw [show (if l[i + 1].1 < x then l[i + 1].1 else x) = min x l[i + 1].1 by split <;> omega]
        exact main
      · have e : nxt l i x = x := by unfold nxt; rw [dif_neg h2]
        rw [e, show min x x = x by omega] at main
        have h2' : ¬ (i : Int) + 1 < l.length := by omega
        simp [qSeq, qIf, qRet, qSet, qAsg, qPar, qDrop, qNx, qRaise, qBk, qCt, qRetN, qAug, pER, pRE, pC, pName, pBin, pTest, pTru, strFit, truD, pAnd, pOr, pNot, pAndV, pOrV, pNotV, pIf, pChain, pNeg, pNil, pCons, pTup, pLst, pIxN, pCB, pCall, pcNil, pcCons, pcSrc, pcFz, pcExc, gtName, gtNil, gtCons, gtTup, gtTupX, gAdd, gMul, gI, gI0, gOrd, gIx, gLen, gInt, gI1, gI2, gGcd, slOf, enOf, begin_, seqAt, atMostOne, Sl.mut, pIsi, isD, isT, tyD, pLenN, pLst1, pLstRev, and_assoc, frzL, blkS, wipeS, toB, ptYes, qSetSrc, gEq, gNe, eqD, flatD, mixD, piSeq, piLst, piRng1, piRng2, piRng3, piFz, PD.gSub, PD.gDiv, PD.gMod, PD.gDivZ, PD.gModZ, PD.gLt, PD.gLe, PD.gGt, PD.gGe, PD.gPow, PD.gShr, PD.gXor, pSlice, pSliceFz, poNone, poSome, qPar3, gLeT, gTupC, pTupN, qSetIx, ownAt, setOwn, pSort, pDictIx, dVal, qSetOpn, qOpn, qPut, gIs, gIsNot, isN, pMt, gAppend, gPop, pChain3, piZip, piEnum, pSortI, pCat, pRep, pLstRg1, pLstRg2, pTupRg1, pInN, gIn, at_h0, at_h1, at_h2, at_h3, at_h4, at_h5, at_h6, at_h7, eqv_ii, eqv_ss, eqv_bb, eqv_is, eqv_si, eqv_nn, eqv_ni, eqv_in, eqv_bi, eqv_ib, rsD, h2']
        exact main
    generalize hE : min x (nxt l i x) = E at *
    have hE2 : E ≤ x := by omega
    subst hk2
    refine seq_i fun k2 hk2 => ?_
    simp [qSeq, qIf, qRet, qSet, qAsg, qPar, qDrop, qNx, qRaise, qBk, qCt, qRetN, qAug, pER, pRE, pC, pName, pBin, pTest, pTru, strFit, truD, pAnd, pOr, pNot, pAndV, pOrV, pNotV, pIf, pChain, pNeg, pNil, pCons, pTup, pLst, pIxN, pCB, pCall, pcNil, pcCons, pcSrc, pcFz, pcExc, gtName, gtNil, gtCons, gtTup, gtTupX, gAdd, gMul, gI, gI0, gOrd, gIx, gLen, gInt, gI1, gI2, gGcd, slOf, enOf, begin_, seqAt, atMostOne, Sl.mut, pIsi, isD, isT, tyD, pLenN, pLst1, pLstRev, and_assoc, frzL, blkS, wipeS, toB, ptYes, qSetSrc, gEq, gNe, eqD, flatD, mixD, piSeq, piLst, piRng1, piRng2, piRng3, piFz, PD.gSub, PD.gDiv, PD.gMod, PD.gDivZ, PD.gModZ, PD.gLt, PD.gLe, PD.gGt, PD.gGe, PD.gPow, PD.gShr, PD.gXor, pSlice, pSliceFz, poNone, poSome, qPar3, gLeT, gTupC, pTupN, qSetIx, ownAt, setOwn, pSort, pDictIx, dVal, qSetOpn, qOpn, qPut, gIs, gIsNot, isN, pMt, gAppend, gPop, pChain3, piZip, piEnum, pSortI, pCat, pRep, pLstRg1, pLstRg2, pTupRg1, pInN, gIn, at_h0, at_h1, at_h2, at_h3, at_h4, at_h5, at_h6, at_h7, eqv_ii, eqv_ss, eqv_bb, eqv_is, eqv_si, eqv_nn, eqv_ni, eqv_in, eqv_bi, eqv_ib]
    rw [show (if l[i].1 < E then E - l[i].1 else 0) = pos (E - l[i].1) by unfold pos; split <;> omega]
    have m0 : 0 ≤ pos (E - l[i].1) ∧ pos (E - l[i].1) ≤ 1048575 := by unfold pos; omega
    generalize pos (E - l[i].1) = m at *
    have zr := Z_rate g2 g3 g4
    generalize hr : l[i].2 = r at *
    have d0 : 0 < (r.den : Int) := by have := r.den_pos; omega
    have W1 : Wd w := wdN (14 * i + 1) (by omega) w1
    have P1 : p.natAbs < 2 ^ (14 * i + 40) := by
      have : p.natAbs ≤ (i * 1048576) * w.natAbs := by
        have : (i : Int) * 1048576 * w = ((i * 1048576 * w.natAbs : Nat) : Int) := by
          have : (w.natAbs : Int) = w := by omega
          rw [Int.natCast_mul, this]
          rfl
        omega
      have a : i * 1048576 < 2 ^ 30 := by rw [show (2 : Nat) ^ 30 = 1073741824 by decide]; omega
      exact Nat.lt_of_le_of_lt this (Nat.lt_of_lt_of_le (mul_lt a w1) (Nat.pow_le_pow_right (by decide) (by omega)))
    have W2 : Wd p := wdN (14 * i + 40) (by omega) P1
    have mm : Wd m := wdS (by omega)
    have rm : (r.num * m).natAbs < 2 ^ 40 := by
      refine Nat.lt_of_lt_of_le (imul_lt zr.1 (show m.natAbs < 2 ^ 20 by rw [show (2 : Nat) ^ 20 = 1048576 by decide]; omega)) (by decide)
    subst hk2
    refine seq_i fun k2 hk2 => ?_
    simp [qSeq, qIf, qRet, qSet, qAsg, qPar, qDrop, qNx, qRaise, qBk, qCt, qRetN, qAug, pER, pRE, pC, pName, pBin, pTest, pTru, strFit, truD, pAnd, pOr, pNot, pAndV, pOrV, pNotV, pIf, pChain, pNeg, pNil, pCons, pTup, pLst, pIxN, pCB, pCall, pcNil, pcCons, pcSrc, pcFz, pcExc, gtName, gtNil, gtCons, gtTup, gtTupX, gAdd, gMul, gI, gI0, gOrd, gIx, gLen, gInt, gI1, gI2, gGcd, slOf, enOf, begin_, seqAt, atMostOne, Sl.mut, pIsi, isD, isT, tyD, pLenN, pLst1, pLstRev, and_assoc, frzL, blkS, wipeS, toB, ptYes, qSetSrc, gEq, gNe, eqD, flatD, mixD, piSeq, piLst, piRng1, piRng2, piRng3, piFz, PD.gSub, PD.gDiv, PD.gMod, PD.gDivZ, PD.gModZ, PD.gLt, PD.gLe, PD.gGt, PD.gGe, PD.gPow, PD.gShr, PD.gXor, pSlice, pSliceFz, poNone, poSome, qPar3, gLeT, gTupC, pTupN, qSetIx, ownAt, setOwn, pSort, pDictIx, dVal, qSetOpn, qOpn, qPut, gIs, gIsNot, isN, pMt, gAppend, gPop, pChain3, piZip, piEnum, pSortI, pCat, pRep, pLstRg1, pLstRg2, pTupRg1, pInN, gIn, at_h0, at_h1, at_h2, at_h3, at_h4, at_h5, at_h6, at_h7, eqv_ii, eqv_ss, eqv_bb, eqv_is, eqv_si, eqv_nn, eqv_ni, eqv_in, eqv_bi, eqv_ib, rt]
    refine ⟨mulOk W2 (zr.wd (by decide)), mulOk (zr.wn (by decide)) mm, mulOk (wdN 40 (by decide) rm) W1, ?_⟩
    subst hk2
    simp [qSeq, qIf, qRet, qSet, qAsg, qPar, qDrop, qNx, qRaise, qBk, qCt, qRetN, qAug, pER, pRE, pC, pName, pBin, pTest, pTru, strFit, truD, pAnd, pOr, pNot, pAndV, pOrV, pNotV, pIf, pChain, pNeg, pNil, pCons, pTup, pLst, pIxN, pCB, pCall, pcNil, pcCons, pcSrc, pcFz, pcExc, gtName, gtNil, gtCons, gtTup, gtTupX, gAdd, gMul, gI, gI0, gOrd, gIx, gLen, gInt, gI1, gI2, gGcd, slOf, enOf, begin_, seqAt, atMostOne, Sl.mut, pIsi, isD, isT, tyD, pLenN, pLst1, pLstRev, and_assoc, frzL, blkS, wipeS, toB, ptYes, qSetSrc, gEq, gNe, eqD, flatD, mixD, piSeq, piLst, piRng1, piRng2, piRng3, piFz, PD.gSub, PD.gDiv, PD.gMod, PD.gDivZ, PD.gModZ, PD.gLt, PD.gLe, PD.gGt, PD.gGe, PD.gPow, PD.gShr, PD.gXor, pSlice, pSliceFz, poNone, poSome, qPar3, gLeT, gTupC, pTupN, qSetIx, ownAt, setOwn, pSort, pDictIx, dVal, qSetOpn, qOpn, qPut, gIs, gIsNot, isN, pMt, gAppend, gPop, pChain3, piZip, piEnum, pSortI, pCat, pRep, pLstRg1, pLstRg2, pTupRg1, pInN, gIn, at_h0, at_h1, at_h2, at_h3, at_h4, at_h5, at_h6, at_h7, eqv_ii, eqv_ss, eqv_bb, eqv_is, eqv_si, eqv_nn, eqv_ni, eqv_in, eqv_bi, eqv_ib]
    refine ⟨mulOk W1 (zr.wd (by decide)), Int.mul_pos w0 d0, ?_, ?_, ?_, ?_⟩
    · exact Nat.lt_of_lt_of_le (imul_lt w1 zr.d) (Nat.pow_le_pow_right (by decide) (by omega))
    · exact Int.add_nonneg (Int.mul_nonneg p0 (by omega)) (Int.mul_nonneg (Int.mul_nonneg g2 m0.1) (by omega))
    · have a1 : p * (r.den : Int) ≤ i * 1048576 * w * r.den := Int.mul_le_mul_of_nonneg_right p1 (by omega)
      have a2 : r.num * m ≤ (r.den : Int) * 1048576 := Int.mul_le_mul g3 (by omega) m0.1 (by omega)
      have a3 : r.num * m * w ≤ (r.den : Int) * 1048576 * w := Int.mul_le_mul_of_nonneg_right a2 (by omega)
      have e : ((i : Int) + 1) * 1048576 * (w * r.den) = i * 1048576 * w * r.den + (r.den : Int) * 1048576 * w := by grind
      rw [e]
      omega
    · have rd := rat_den r
      rw [hp, ← rd]
      grind
  · rintro ρ ⟨p, w, s_k, s_first, s_rate, s_last, s_many, rfl, w0, w1, p0, p1, hp⟩
    show k _
    subst hk
    have e20 : (l.length : Int).toNat = l.length := by omega
    rw [e20] at w1 hp p1
    rw [List.drop_eq_nil_of_le (Nat.le_refl _)] at hp
    have w2 : w.natAbs < 2 ^ 281 := ilift w1 (by omega)
    simp [qSeq, qIf, qRet, qSet, qAsg, qPar, qDrop, qNx, qRaise, qBk, qCt, qRetN, qAug, pER, pRE, pC, pName, pBin, pTest, pTru, strFit, truD, pAnd, pOr, pNot, pAndV, pOrV, pNotV, pIf, pChain, pNeg, pNil, pCons, pTup, pLst, pIxN, pCB, pCall, pcNil, pcCons, pcSrc, pcFz, pcExc, gtName, gtNil, gtCons, gtTup, gtTupX, gAdd, gMul, gI, gI0, gOrd, gIx, gLen, gInt, gI1, gI2, gGcd, slOf, enOf, begin_, seqAt, atMostOne, Sl.mut, pIsi, isD, isT, tyD, pLenN, pLst1, pLstRev, and_assoc, frzL, blkS, wipeS, toB, ptYes, qSetSrc, gEq, gNe, eqD, flatD, mixD, piSeq, piLst, piRng1, piRng2, piRng3, piFz, PD.gSub, PD.gDiv, PD.gMod, PD.gDivZ, PD.gModZ, PD.gLt, PD.gLe, PD.gGt, PD.gGe, PD.gPow, PD.gShr, PD.gXor, pSlice, pSliceFz, poNone, poSome, qPar3, gLeT, gTupC, pTupN, qSetIx, ownAt, setOwn, pSort, pDictIx, dVal, qSetOpn, qOpn, qPut, gIs, gIsNot, isN, pMt, gAppend, gPop, pChain3, piZip, piEnum, pSortI, pCat, pRep, pLstRg1, pLstRg2, pTupRg1, pInN, gIn, at_h0, at_h1, at_h2, at_h3, at_h4, at_h5, at_h6, at_h7, eqv_ii, eqv_ss, eqv_bb, eqv_is, eqv_si, eqv_nn, eqv_ni, eqv_in, eqv_bi, eqv_ib]
    refine ⟨szn 2, q p w w0 (ilift w2 (by decide)) p0 ?_ (by rw [hp]; simp only [Ux]; grind)⟩
    have : p.natAbs ≤ (l.length * 1048576) * w.natAbs := by
      have : (l.length : Int) * 1048576 * w = ((l.length * 1048576 * w.natAbs : Nat) : Int) := by
        have : (w.natAbs : Int) = w := by omega
        rw [Int.natCast_mul, this]
        rfl
      omega
    have a : l.length * 1048576 < 2 ^ 30 := by rw [show (2 : Nat) ^ 30 = 1073741824 by decide]; omega
    exact Nat.lt_of_le_of_lt this (Nat.lt_of_lt_of_le (mul_lt a w2) (Nat.pow_le_pow_right (by decide) (by decide)))
theorem rho_ok {l : RS} (hl : Rg l) (x : Int) : 0 ≤ (rho l x).num ∧ (rho l x).num ≤ (rho l x).den ∧ (rho l x).den ≤ 10000 := by
  obtain ⟨r, t, e⟩ := hl.hd
  obtain ⟨p, hp, h⟩ := rho_mem l x (by rw [e]; simp)
  obtain ⟨_, _, a, b, c⟩ := hl.ok p hp
  rw [h]
  exact ⟨a, b, c⟩
theorem rho_01 {l : RS} (hl : Rg l) (x : Int) : 0 ≤ rho l x ∧ rho l x ≤ 1 := by
  obtain ⟨a, b, _⟩ := rho_ok hl x
  exact ⟨Rat.num_nonneg.mp a, (Rat.le_iff _ _).mpr (by simpa using b)⟩
theorem dl_lt {l : RS} (hl : Rg l) : Dl l < 2 ^ 280 := by
  have a := Dl_lt l fun p hp => (hl.ok p hp).2.2.2.2
  have b : 10000 ^ l.length ≤ 10000 ^ 20 := Nat.pow_le_pow_right (by decide) hl.len
  have c : (10000 : Nat) ^ 20 < 2 ^ 280 := by decide +kernel
  omega
theorem diff_den {l : RS} (hl : Rg l) (f b : Int) : (Ux l b - Ux l f).den < 2 ^ 280 := by
  obtain ⟨z, hz⟩ := Ux_int l b
  obtain ⟨y, hy⟩ := Ux_int l f
  have : (Ux l b - Ux l f).den ∣ Dl l := den_dvd (z := z - y) (Dl_pos l) (by
    rw [Rat.intCast_sub, ← hz, ← hy]
    grind)
  exact Nat.lt_of_le_of_lt (Nat.le_of_dvd (Dl_pos l) this) (dl_lt hl)
theorem diff_rng {l : RS} (hl : Rg l) {f : Int} (hf : 0 ≤ f) : ∀ n : Nat, 0 ≤ Ux l (f + n) - Ux l f ∧ Ux l (f + n) - Ux l f ≤ ((n : Int) : Rat)
  | 0 => by simp; grind
  | n + 1 => by
    obtain ⟨r, t, e⟩ := hl.hd
    have ih := diff_rng hl hf n
    have st := Ux_up l 0 r t e hl.up (f + n) (by omega)
    have h01 := rho_01 hl (f + n)
    have e1 : f + ((n + 1 : Nat) : Int) = f + n + 1 := by omega
    have e2 : (((n + 1 : Nat) : Int) : Rat) = ((n : Int) : Rat) + 1 := by rw [Int.natCast_add, Rat.intCast_add]; rfl
    rw [e1, e2, st]
    constructor <;> grind
theorem diff_num {l : RS} (hl : Rg l) {f b : Int} (hf : 0 ≤ f) (hb : f ≤ b) : 0 ≤ (Ux l b - Ux l f).num ∧ (Ux l b - Ux l f).num ≤ (b - f) * (Ux l b - Ux l f).den := by
  have := diff_rng hl hf (b - f).toNat
  have e : f + (((b - f).toNat : Nat) : Int) = b := by omega
  rw [e] at this
  have h := num_bound this.1 this.2
  have e2 : (((b - f).toNat : Nat) : Int) = b - f := by omega
  rw [e2] at h
  exact h
theorem diff_numN {l : RS} (hl : Rg l) {f b : Int} (hf : 0 ≤ f) (hb : f ≤ b) (h130 : b - f ≤ 131) : (Ux l b - Ux l f).num.natAbs < 2 ^ 288 := by
  have a := diff_num hl hf hb
  have d := diff_den hl f b
  have : (b - f) * ((Ux l b - Ux l f).den : Int) ≤ 131 * ((Ux l b - Ux l f).den : Int) := Int.mul_le_mul_of_nonneg_right h130 (by omega)
  have e : (2 : Nat) ^ 288 = 2 ^ 280 * 256 := by decide +kernel
  generalize (2 : Nat) ^ 280 = A at *
  generalize (2 : Nat) ^ 288 = B at *
  omega
theorem pf__law_short (X : XF K e [.O, .M, .N, .R, .T]) : ∀ as Qr Qe, sp__law_short e as Qr Qe → rd__law_short K e (enOf Qr Qe) (begin_ 7 as) := by
  rintro as Qr Qe ⟨l, f, b, rfl, hl, hf, hb, hb1, h130, q⟩
  unfold rd__law_short
  refine seq_i fun k hk => ?_
  simp [qSeq, qIf, qRet, qSet, qAsg, qPar, qDrop, qNx, qRaise, qBk, qCt, qRetN, qAug, pER, pRE, pC, pName, pBin, pTest, pTru, strFit, truD, pAnd, pOr, pNot, pAndV, pOrV, pNotV, pIf, pChain, pNeg, pNil, pCons, pTup, pLst, pIxN, pCB, pCall, pcNil, pcCons, pcSrc, pcFz, pcExc, gtName, gtNil, gtCons, gtTup, gtTupX, gAdd, gMul, gI, gI0, gOrd, gIx, gLen, gInt, gI1, gI2, gGcd, slOf, enOf, begin_, seqAt, atMostOne, Sl.mut, pIsi, isD, isT, tyD, pLenN, pLst1, pLstRev, and_assoc, frzL, blkS, wipeS, toB, ptYes, qSetSrc, gEq, gNe, eqD, flatD, mixD, piSeq, piLst, piRng1, piRng2, piRng3, piFz, PD.gSub, PD.gDiv, PD.gMod, PD.gDivZ, PD.gModZ, PD.gLt, PD.gLe, PD.gGt, PD.gGe, PD.gPow, PD.gShr, PD.gXor, pSlice, pSliceFz, poNone, poSome, qPar3, gLeT, gTupC, pTupN, qSetIx, ownAt, setOwn, pSort, pDictIx, dVal, qSetOpn, qOpn, qPut, gIs, gIsNot, isN, pMt, gAppend, gPop, pChain3, piZip, piEnum, pSortI, pCat, pRep, pLstRg1, pLstRg2, pTupRg1, pInN, gIn, at_h0, at_h1, at_h2, at_h3, at_h4, at_h5, at_h6, at_h7, eqv_ii, eqv_ss, eqv_bb, eqv_is, eqv_si, eqv_nn, eqv_ni, eqv_in, eqv_bi, eqv_ib]
  subst hk
  refine seq_i fun k hk => ?_
  simp [qSeq, qIf, qRet, qSet, qAsg, qPar, qDrop, qNx, qRaise, qBk, qCt, qRetN, qAug, pER, pRE, pC, pName, pBin, pTest, pTru, strFit, truD, pAnd, pOr, pNot, pAndV, pOrV, pNotV, pIf, pChain, pNeg, pNil, pCons, pTup, pLst, pIxN, pCB, pCall, pcNil, pcCons, pcSrc, pcFz, pcExc, gtName, gtNil, gtCons, gtTup, gtTupX, gAdd, gMul, gI, gI0, gOrd, gIx, gLen, gInt, gI1, gI2, gGcd, slOf, enOf, begin_, seqAt, atMostOne, Sl.mut, pIsi, isD, isT, tyD, pLenN, pLst1, pLstRev, and_assoc, frzL, blkS, wipeS, toB, ptYes, qSetSrc, gEq, gNe, eqD, flatD, mixD, piSeq, piLst, piRng1, piRng2, piRng3, piFz, PD.gSub, PD.gDiv, PD.gMod, PD.gDivZ, PD.gModZ, PD.gLt, PD.gLe, PD.gGt, PD.gGe, PD.gPow, PD.gShr, PD.gXor, pSlice, pSliceFz, poNone, poSome, qPar3, gLeT, gTupC, pTupN, qSetIx, ownAt, setOwn, pSort, pDictIx, dVal, qSetOpn, qOpn, qPut, gIs, gIsNot, isN, pMt, gAppend, gPop, pChain3, piZip, piEnum, pSortI, pCat, pRep, pLstRg1, pLstRg2, pTupRg1, pInN, gIn, at_h0, at_h1, at_h2, at_h3, at_h4, at_h5, at_h6, at_h7, eqv_ii, eqv_ss, eqv_bb, eqv_is, eqv_si, eqv_nn, eqv_ni, eqv_in, eqv_bi, eqv_ib]
  subst hk
  refine seq_i fun k hk => ?_
  obtain ⟨r, t, e0⟩ := hl.hd
  refine for_rng2 f b (fun i ρ => ∃ (s_day s_rate : Sl), ρ = [.v (rsD l), .v (.int f), .v (.int b), .v (.int (Ux l (f + i) - Ux l f).num), .v (.int ((Ux l (f + i) - Ux l f).den : Int)), s_day, s_rate]) ⟨by omega, by omega⟩ ⟨by omega, by omega⟩ ⟨.un, .un, ?_⟩ ?_ ?_
  · have : Ux l (f + (0 : Nat)) - Ux l f = 0 := by simp; grind
    rw [this]
    rfl
  · rintro i ρ hi ⟨s_day, s_rate, rfl⟩
    refine seq_i fun k2 hk2 => ?_
    simp [qSeq, qIf, qRet, qSet, qAsg, qPar, qDrop, qNx, qRaise, qBk, qCt, qRetN, qAug, pER, pRE, pC, pName, pBin, pTest, pTru, strFit, truD, pAnd, pOr, pNot, pAndV, pOrV, pNotV, pIf, pChain, pNeg, pNil, pCons, pTup, pLst, pIxN, pCB, pCall, pcNil, pcCons, pcSrc, pcFz, pcExc, gtName, gtNil, gtCons, gtTup, gtTupX, gAdd, gMul, gI, gI0, gOrd, gIx, gLen, gInt, gI1, gI2, gGcd, slOf, enOf, begin_, seqAt, atMostOne, Sl.mut, pIsi, isD, isT, tyD, pLenN, pLst1, pLstRev, and_assoc, frzL, blkS, wipeS, toB, ptYes, qSetSrc, gEq, gNe, eqD, flatD, mixD, piSeq, piLst, piRng1, piRng2, piRng3, piFz, PD.gSub, PD.gDiv, PD.gMod, PD.gDivZ, PD.gModZ, PD.gLt, PD.gLe, PD.gGt, PD.gGe, PD.gPow, PD.gShr, PD.gXor, pSlice, pSliceFz, poNone, poSome, qPar3, gLeT, gTupC, pTupN, qSetIx, ownAt, setOwn, pSort, pDictIx, dVal, qSetOpn, qOpn, qPut, gIs, gIsNot, isN, pMt, gAppend, gPop, pChain3, piZip, piEnum, pSortI, pCat, pRep, pLstRg1, pLstRg2, pTupRg1, pInN, gIn, at_h0, at_h1, at_h2, at_h3, at_h4, at_h5, at_h6, at_h7, eqv_ii, eqv_ss, eqv_bb, eqv_is, eqv_si, eqv_nn, eqv_ni, eqv_in, eqv_bi, eqv_ib, sp__law_rate]
    refine ⟨l, rfl, hl, by omega, ?_⟩
    subst hk2
    have st := Ux_up l 0 r t e0 hl.up (f + i) (by omega)
    obtain ⟨g2, g3, g4⟩ := rho_ok hl (f + i)
    have zr := Z_rate g2 g3 g4
    have n1 := diff_num hl hf (show f ≤ f + i by omega)
    have n2 := diff_numN hl hf (show f ≤ f + i by omega) (by omega)
    have n3 := diff_den hl f (f + i)
    have eQ : Ux l (f + ((i : Int) + 1)) - Ux l f = (Ux l (f + i) - Ux l f) + rho l (f + i) := by
      have : f + ((i : Int) + 1) = f + i + 1 := by omega
      rw [this, st]
      grind
    rw [add_rt] at eQ
    generalize hq : Ux l (f + i) - Ux l f = Qi at *
    generalize hrr : rho l (f + i) = R at *
    have d0 : 0 < (R.den : Int) := by have := R.den_pos; omega
    have d1 : 0 < (Qi.den : Int) := by have := Qi.den_pos; omega
    have n3' : ((Qi.den : Int)).natAbs < 2 ^ 280 := by simpa using n3
    simp [qSeq, qIf, qRet, qSet, qAsg, qPar, qDrop, qNx, qRaise, qBk, qCt, qRetN, qAug, pER, pRE, pC, pName, pBin, pTest, pTru, strFit, truD, pAnd, pOr, pNot, pAndV, pOrV, pNotV, pIf, pChain, pNeg, pNil, pCons, pTup, pLst, pIxN, pCB, pCall, pcNil, pcCons, pcSrc, pcFz, pcExc, gtName, gtNil, gtCons, gtTup, gtTupX, gAdd, gMul, gI, gI0, gOrd, gIx, gLen, gInt, gI1, gI2, gGcd, slOf, enOf, begin_, seqAt, atMostOne, Sl.mut, pIsi, isD, isT, tyD, pLenN, pLst1, pLstRev, and_assoc, frzL, blkS, wipeS, toB, ptYes, qSetSrc, gEq, gNe, eqD, flatD, mixD, piSeq, piLst, piRng1, piRng2, piRng3, piFz, PD.gSub, PD.gDiv, PD.gMod, PD.gDivZ, PD.gModZ, PD.gLt, PD.gLe, PD.gGt, PD.gGe, PD.gPow, PD.gShr, PD.gXor, pSlice, pSliceFz, poNone, poSome, qPar3, gLeT, gTupC, pTupN, qSetIx, ownAt, setOwn, pSort, pDictIx, dVal, qSetOpn, qOpn, qPut, gIs, gIsNot, isN, pMt, gAppend, gPop, pChain3, piZip, piEnum, pSortI, pCat, pRep, pLstRg1, pLstRg2, pTupRg1, pInN, gIn, at_h0, at_h1, at_h2, at_h3, at_h4, at_h5, at_h6, at_h7, eqv_ii, eqv_ss, eqv_bb, eqv_is, eqv_si, eqv_nn, eqv_ni, eqv_in, eqv_bi, eqv_ib, rt]
    refine ⟨mulOk (wdN 288 (by decide) n2) (zr.wd (by decide)), mulOk (zr.wn (by decide)) (wdN 280 (by decide) n3'), mulOk (wdN 280 (by decide) n3') (zr.wd (by decide)), _, _, rfl, Int.mul_pos d1 d0, ?_, ?_, ?_, ?_⟩
    · exact Int.add_nonneg (Int.mul_nonneg n1.1 (by omega)) (Int.mul_nonneg g2 (by omega))
    · exact Nat.lt_of_lt_of_le (iadd_lt (n := 302) (imul_lt n2 zr.d) (ilift (imul_lt zr.1 n3') (by decide))) (Nat.pow_le_pow_right (by decide) (by decide))
    · exact Nat.lt_of_lt_of_le (imul_lt n3' zr.d) (Nat.pow_le_pow_right (by decide) (by decide))
    · rw [← eQ]
      simp [qSeq, qIf, qRet, qSet, qAsg, qPar, qDrop, qNx, qRaise, qBk, qCt, qRetN, qAug, pER, pRE, pC, pName, pBin, pTest, pTru, strFit, truD, pAnd, pOr, pNot, pAndV, pOrV, pNotV, pIf, pChain, pNeg, pNil, pCons, pTup, pLst, pIxN, pCB, pCall, pcNil, pcCons, pcSrc, pcFz, pcExc, gtName, gtNil, gtCons, gtTup, gtTupX, gAdd, gMul, gI, gI0, gOrd, gIx, gLen, gInt, gI1, gI2, gGcd, slOf, enOf, begin_, seqAt, atMostOne, Sl.mut, pIsi, isD, isT, tyD, pLenN, pLst1, pLstRev, and_assoc, frzL, blkS, wipeS, toB, ptYes, qSetSrc, gEq, gNe, eqD, flatD, mixD, piSeq, piLst, piRng1, piRng2, piRng3, piFz, PD.gSub, PD.gDiv, PD.gMod, PD.gDivZ, PD.gModZ, PD.gLt, PD.gLe, PD.gGt, PD.gGe, PD.gPow, PD.gShr, PD.gXor, pSlice, pSliceFz, poNone, poSome, qPar3, gLeT, gTupC, pTupN, qSetIx, ownAt, setOwn, pSort, pDictIx, dVal, qSetOpn, qOpn, qPut, gIs, gIsNot, isN, pMt, gAppend, gPop, pChain3, piZip, piEnum, pSortI, pCat, pRep, pLstRg1, pLstRg2, pTupRg1, pInN, gIn, at_h0, at_h1, at_h2, at_h3, at_h4, at_h5, at_h6, at_h7, eqv_ii, eqv_ss, eqv_bb, eqv_is, eqv_si, eqv_nn, eqv_ni, eqv_in, eqv_bi, eqv_ib, rt]
  · rintro ρ ⟨s_day, s_rate, rfl⟩
    show k _
    subst hk
    have e : f + (((b - f).toNat : Nat) : Int) = b := by omega
    rw [e]
    simp [qSeq, qIf, qRet, qSet, qAsg, qPar, qDrop, qNx, qRaise, qBk, qCt, qRetN, qAug, pER, pRE, pC, pName, pBin, pTest, pTru, strFit, truD, pAnd, pOr, pNot, pAndV, pOrV, pNotV, pIf, pChain, pNeg, pNil, pCons, pTup, pLst, pIxN, pCB, pCall, pcNil, pcCons, pcSrc, pcFz, pcExc, gtName, gtNil, gtCons, gtTup, gtTupX, gAdd, gMul, gI, gI0, gOrd, gIx, gLen, gInt, gI1, gI2, gGcd, slOf, enOf, begin_, seqAt, atMostOne, Sl.mut, pIsi, isD, isT, tyD, pLenN, pLst1, pLstRev, and_assoc, frzL, blkS, wipeS, toB, ptYes, qSetSrc, gEq, gNe, eqD, flatD, mixD, piSeq, piLst, piRng1, piRng2, piRng3, piFz, PD.gSub, PD.gDiv, PD.gMod, PD.gDivZ, PD.gModZ, PD.gLt, PD.gLe, PD.gGt, PD.gGe, PD.gPow, PD.gShr, PD.gXor, pSlice, pSliceFz, poNone, poSome, qPar3, gLeT, gTupC, pTupN, qSetIx, ownAt, setOwn, pSort, pDictIx, dVal, qSetOpn, qOpn, qPut, gIs, gIsNot, isN, pMt, gAppend, gPop, pChain3, piZip, piEnum, pSortI, pCat, pRep, pLstRg1, pLstRg2, pTupRg1, pInN, gIn, at_h0, at_h1, at_h2, at_h3, at_h4, at_h5, at_h6, at_h7, eqv_ii, eqv_ss, eqv_bb, eqv_is, eqv_si, eqv_nn, eqv_ni, eqv_in, eqv_bi, eqv_ib]
    exact ⟨szn 2, q (ilift (diff_numN hl hf hb (by omega)) (by decide)) (diff_den hl f b) (diff_num hl hf hb).1⟩
theorem pf__law_due (X : XF K e [.O, .M, .N, .R, .T]) : ∀ as Qr Qe, sp__law_due e as Qr Qe → rd__law_due K e (enOf Qr Qe) (begin_ 8 as) := by
  rintro as Qr Qe ⟨P, l, f, b, rfl, ⟨hP0, hP1, hP2⟩, hl, hf, hb, hb1, q⟩
  unfold rd__law_due
  refine seq_i fun k hk => ?_
  have pn : P.num.natAbs < 2 ^ 140 := Nat.lt_of_le_of_lt hP1 (by decide)
  have pd : ((P.den : Int)).natAbs < 2 ^ 110 := by
    have : P.den < 2 ^ 110 := Nat.lt_of_le_of_lt hP2 (by decide)
    simpa using this
  have pd0 : 0 < (P.den : Int) := by have := P.den_pos; omega
  suffices main : ∀ (p w : Int) (x y : Sl), 0 ≤ p → p.natAbs < 2 ^ 760 → 0 < w → w.natAbs < 2 ^ 620 → (p : Rat) = (Ux l b - Ux l f) * w → k [.v (rt P), .v (rsD l), .v (.int f), .v (.int b), .v (.int p), .v (.int w), x, y] by
    by_cases h : b - f ≤ 130
    · simp [qSeq, qIf, qRet, qSet, qAsg, qPar, qDrop, qNx, qRaise, qBk, qCt, qRetN, qAug, pER, pRE, pC, pName, pBin, pTest, pTru, strFit, truD, pAnd, pOr, pNot, pAndV, pOrV, pNotV, pIf, pChain, pNeg, pNil, pCons, pTup, pLst, pIxN, pCB, pCall, pcNil, pcCons, pcSrc, pcFz, pcExc, gtName, gtNil, gtCons, gtTup, gtTupX, gAdd, gMul, gI, gI0, gOrd, gIx, gLen, gInt, gI1, gI2, gGcd, slOf, enOf, begin_, seqAt, atMostOne, Sl.mut, pIsi, isD, isT, tyD, pLenN, pLst1, pLstRev, and_assoc, frzL, blkS, wipeS, toB, ptYes, qSetSrc, gEq, gNe, eqD, flatD, mixD, piSeq, piLst, piRng1, piRng2, piRng3, piFz, PD.gSub, PD.gDiv, PD.gMod, PD.gDivZ, PD.gModZ, PD.gLt, PD.gLe, PD.gGt, PD.gGe, PD.gPow, PD.gShr, PD.gXor, pSlice, pSliceFz, poNone, poSome, qPar3, gLeT, gTupC, pTupN, qSetIx, ownAt, setOwn, pSort, pDictIx, dVal, qSetOpn, qOpn, qPut, gIs, gIsNot, isN, pMt, gAppend, gPop, pChain3, piZip, piEnum, pSortI, pCat, pRep, pLstRg1, pLstRg2, pTupRg1, pInN, gIn, at_h0, at_h1, at_h2, at_h3, at_h4, at_h5, at_h6, at_h7, eqv_ii, eqv_ss, eqv_bb, eqv_is, eqv_si, eqv_nn, eqv_ni, eqv_in, eqv_bi, eqv_ib, h, sp__law_short]
      refine ⟨l, rfl, hl, hf, hb, hb1, fun a1 a2 a3 => ?_⟩
      simp [rt, qSeq, qIf, qRet, qSet, qAsg, qPar, qDrop, qNx, qRaise, qBk, qCt, qRetN, qAug, pER, pRE, pC, pName, pBin, pTest, pTru, strFit, truD, pAnd, pOr, pNot, pAndV, pOrV, pNotV, pIf, pChain, pNeg, pNil, pCons, pTup, pLst, pIxN, pCB, pCall, pcNil, pcCons, pcSrc, pcFz, pcExc, gtName, gtNil, gtCons, gtTup, gtTupX, gAdd, gMul, gI, gI0, gOrd, gIx, gLen, gInt, gI1, gI2, gGcd, slOf, enOf, begin_, seqAt, atMostOne, Sl.mut, pIsi, isD, isT, tyD, pLenN, pLst1, pLstRev, and_assoc, frzL, blkS, wipeS, toB, ptYes, qSetSrc, gEq, gNe, eqD, flatD, mixD, piSeq, piLst, piRng1, piRng2, piRng3, piFz, PD.gSub, PD.gDiv, PD.gMod, PD.gDivZ, PD.gModZ, PD.gLt, PD.gLe, PD.gGt, PD.gGe, PD.gPow, PD.gShr, PD.gXor, pSlice, pSliceFz, poNone, poSome, qPar3, gLeT, gTupC, pTupN, qSetIx, ownAt, setOwn, pSort, pDictIx, dVal, qSetOpn, qOpn, qPut, gIs, gIsNot, isN, pMt, gAppend, gPop, pChain3, piZip, piEnum, pSortI, pCat, pRep, pLstRg1, pLstRg2, pTupRg1, pInN, gIn, at_h0, at_h1, at_h2, at_h3, at_h4, at_h5, at_h6, at_h7, eqv_ii, eqv_ss, eqv_bb, eqv_is, eqv_si, eqv_nn, eqv_ni, eqv_in, eqv_bi, eqv_ib]
      have := rat_den (Ux l b - Ux l f)
      refine main _ _ _ _ (Rat.num_nonneg.mpr a3) (ilift a1 (by decide)) (by have := (Ux l b - Ux l f).den_pos; omega) ?_ (by rw [← this])
      have : ((Ux l b - Ux l f).den) < 2 ^ 620 := Nat.lt_of_lt_of_le a2 (Nat.pow_le_pow_right (by decide) (by decide))
      simpa using this
    · simp only [qIf]
      simp [qSeq, qIf, qRet, qSet, qAsg, qPar, qDrop, qNx, qRaise, qBk, qCt, qRetN, qAug, pER, pRE, pC, pName, pBin, pTest, pTru, strFit, truD, pAnd, pOr, pNot, pAndV, pOrV, pNotV, pIf, pChain, pNeg, pNil, pCons, pTup, pLst, pIxN, pCB, pCall, pcNil, pcCons, pcSrc, pcFz, pcExc, gtName, gtNil, gtCons, gtTup, gtTupX, gAdd, gMul, gI, gI0, gOrd, gIx, gLen, gInt, gI1, gI2, gGcd, slOf, enOf, begin_, seqAt, atMostOne, Sl.mut, pIsi, isD, isT, tyD, pLenN, pLst1, pLstRev, and_assoc, frzL, blkS, wipeS, toB, ptYes, qSetSrc, gEq, gNe, eqD, flatD, mixD, piSeq, piLst, piRng1, piRng2, piRng3, piFz, PD.gSub, PD.gDiv, PD.gMod, PD.gDivZ, PD.gModZ, PD.gLt, PD.gLe, PD.gGt, PD.gGe, PD.gPow, PD.gShr, PD.gXor, pSlice, pSliceFz, poNone, poSome, qPar3, gLeT, gTupC, pTupN, qSetIx, ownAt, setOwn, pSort, pDictIx, dVal, qSetOpn, qOpn, qPut, gIs, gIsNot, isN, pMt, gAppend, gPop, pChain3, piZip, piEnum, pSortI, pCat, pRep, pLstRg1, pLstRg2, pTupRg1, pInN, gIn, at_h0, at_h1, at_h2, at_h3, at_h4, at_h5, at_h6, at_h7, eqv_ii, eqv_ss, eqv_bb, eqv_is, eqv_si, eqv_nn, eqv_ni, eqv_in, eqv_bi, eqv_ib, h]
      refine ⟨l, f, rfl, hl, hf, by omega, fun p1 w1 w10 w11 p10 p11 e1 => ?_⟩
      simp [qSeq, qIf, qRet, qSet, qAsg, qPar, qDrop, qNx, qRaise, qBk, qCt, qRetN, qAug, pER, pRE, pC, pName, pBin, pTest, pTru, strFit, truD, pAnd, pOr, pNot, pAndV, pOrV, pNotV, pIf, pChain, pNeg, pNil, pCons, pTup, pLst, pIxN, pCB, pCall, pcNil, pcCons, pcSrc, pcFz, pcExc, gtName, gtNil, gtCons, gtTup, gtTupX, gAdd, gMul, gI, gI0, gOrd, gIx, gLen, gInt, gI1, gI2, gGcd, slOf, enOf, begin_, seqAt, atMostOne, Sl.mut, pIsi, isD, isT, tyD, pLenN, pLst1, pLstRev, and_assoc, frzL, blkS, wipeS, toB, ptYes, qSetSrc, gEq, gNe, eqD, flatD, mixD, piSeq, piLst, piRng1, piRng2, piRng3, piFz, PD.gSub, PD.gDiv, PD.gMod, PD.gDivZ, PD.gModZ, PD.gLt, PD.gLe, PD.gGt, PD.gGe, PD.gPow, PD.gShr, PD.gXor, pSlice, pSliceFz, poNone, poSome, qPar3, gLeT, gTupC, pTupN, qSetIx, ownAt, setOwn, pSort, pDictIx, dVal, qSetOpn, qOpn, qPut, gIs, gIsNot, isN, pMt, gAppend, gPop, pChain3, piZip, piEnum, pSortI, pCat, pRep, pLstRg1, pLstRg2, pTupRg1, pInN, gIn, at_h0, at_h1, at_h2, at_h3, at_h4, at_h5, at_h6, at_h7, eqv_ii, eqv_ss, eqv_bb, eqv_is, eqv_si, eqv_nn, eqv_ni, eqv_in, eqv_bi, eqv_ib]
      refine ⟨l, b, rfl, hl, by omega, hb1, fun p2 w2 w20 w21 p20 p21 e2 => ?_⟩
      simp [qSeq, qIf, qRet, qSet, qAsg, qPar, qDrop, qNx, qRaise, qBk, qCt, qRetN, qAug, pER, pRE, pC, pName, pBin, pTest, pTru, strFit, truD, pAnd, pOr, pNot, pAndV, pOrV, pNotV, pIf, pChain, pNeg, pNil, pCons, pTup, pLst, pIxN, pCB, pCall, pcNil, pcCons, pcSrc, pcFz, pcExc, gtName, gtNil, gtCons, gtTup, gtTupX, gAdd, gMul, gI, gI0, gOrd, gIx, gLen, gInt, gI1, gI2, gGcd, slOf, enOf, begin_, seqAt, atMostOne, Sl.mut, pIsi, isD, isT, tyD, pLenN, pLst1, pLstRev, and_assoc, frzL, blkS, wipeS, toB, ptYes, qSetSrc, gEq, gNe, eqD, flatD, mixD, piSeq, piLst, piRng1, piRng2, piRng3, piFz, PD.gSub, PD.gDiv, PD.gMod, PD.gDivZ, PD.gModZ, PD.gLt, PD.gLe, PD.gGt, PD.gGe, PD.gPow, PD.gShr, PD.gXor, pSlice, pSliceFz, poNone, poSome, qPar3, gLeT, gTupC, pTupN, qSetIx, ownAt, setOwn, pSort, pDictIx, dVal, qSetOpn, qOpn, qPut, gIs, gIsNot, isN, pMt, gAppend, gPop, pChain3, piZip, piEnum, pSortI, pCat, pRep, pLstRg1, pLstRg2, pTupRg1, pInN, gIn, at_h0, at_h1, at_h2, at_h3, at_h4, at_h5, at_h6, at_h7, eqv_ii, eqv_ss, eqv_bb, eqv_is, eqv_si, eqv_nn, eqv_ni, eqv_in, eqv_bi, eqv_ib]
      have a1 : (p2 * w1).natAbs < 2 ^ 650 := imul_lt p21 w11
      have a2 : (p1 * w2).natAbs < 2 ^ 650 := imul_lt p11 w21
      have dn := diff_num hl hf hb
      have eq : ((p2 * w1 - p1 * w2 : Int) : Rat) = (Ux l b - Ux l f) * ((w1 * w2 : Int) : Rat) := by
        rw [Rat.intCast_sub, nat_cast_mul, nat_cast_mul, nat_cast_mul, e1, e2]
        grind
      have nn : 0 ≤ p2 * w1 - p1 * w2 := by
        have h0 : (0 : Rat) ≤ (Ux l b - Ux l f) * ((w1 * w2 : Int) : Rat) := Rat.mul_nonneg (Rat.num_nonneg.mp dn.1) (by exact_mod_cast Int.le_of_lt (Int.mul_pos w10 w20))
        rw [← eq] at h0
        exact_mod_cast h0
      refine ⟨mulOk (wdN 350 (by decide) p21) (wdN 300 (by decide) w11), mulOk (wdN 350 (by decide) p11) (wdN 300 (by decide) w21), mulOk (wdN 300 (by decide) w11) (wdN 300 (by decide) w21), ?_⟩
      exact main _ _ _ _ nn (ilift (isub_lt a1 a2) (by decide)) (Int.mul_pos w10 w20) (ilift (imul_lt w11 w21) (by decide)) eq
  intro p w x y p0 p1 w0 w1 e1
  subst hk
  simp [qSeq, qIf, qRet, qSet, qAsg, qPar, qDrop, qNx, qRaise, qBk, qCt, qRetN, qAug, pER, pRE, pC, pName, pBin, pTest, pTru, strFit, truD, pAnd, pOr, pNot, pAndV, pOrV, pNotV, pIf, pChain, pNeg, pNil, pCons, pTup, pLst, pIxN, pCB, pCall, pcNil, pcCons, pcSrc, pcFz, pcExc, gtName, gtNil, gtCons, gtTup, gtTupX, gAdd, gMul, gI, gI0, gOrd, gIx, gLen, gInt, gI1, gI2, gGcd, slOf, enOf, begin_, seqAt, atMostOne, Sl.mut, pIsi, isD, isT, tyD, pLenN, pLst1, pLstRev, and_assoc, frzL, blkS, wipeS, toB, ptYes, qSetSrc, gEq, gNe, eqD, flatD, mixD, piSeq, piLst, piRng1, piRng2, piRng3, piFz, PD.gSub, PD.gDiv, PD.gMod, PD.gDivZ, PD.gModZ, PD.gLt, PD.gLe, PD.gGt, PD.gGe, PD.gPow, PD.gShr, PD.gXor, pSlice, pSliceFz, poNone, poSome, qPar3, gLeT, gTupC, pTupN, qSetIx, ownAt, setOwn, pSort, pDictIx, dVal, qSetOpn, qOpn, qPut, gIs, gIsNot, isN, pMt, gAppend, gPop, pChain3, piZip, piEnum, pSortI, pCat, pRep, pLstRg1, pLstRg2, pTupRg1, pInN, gIn, at_h0, at_h1, at_h2, at_h3, at_h4, at_h5, at_h6, at_h7, eqv_ii, eqv_ss, eqv_bb, eqv_is, eqv_si, eqv_nn, eqv_ni, eqv_in, eqv_bi, eqv_ib, rt]
  refine ⟨mulOk (wdN 140 (by decide) pn) (wdN 760 (by decide) p1), mulOk (wdN 110 (by decide) pd) (wdN 620 (by decide) w1), mulS (.inr (by decide)), _, _, rfl, by have := Int.mul_pos pd0 w0; omega, Int.mul_nonneg hP0 p0, ilift (imul_lt pn p1) (by decide), ?_, ?_⟩
  · exact ilift (imul_lt (n := 730) (m := 9) (imul_lt pd w1) (by decide)) (by decide)
  · have : Rat.divInt (P.num * p) (P.den * w * 365) = P * (Ux l b - Ux l f) / 365 := by
      have rd := rat_den P
      have d0 : ((P.den : Int) : Rat) ≠ 0 := by
        intro z
        have : (P.den : Int) = 0 := by exact_mod_cast z
        omega
      have w0' : (w : Rat) ≠ 0 := by
        intro z
        have : w = 0 := by exact_mod_cast z
        omega
      rw [dv, nat_cast_mul, nat_cast_mul, nat_cast_mul, e1, ← rd]
      have : ((365 : Int) : Rat) = 365 := rfl
      rw [this]
      grind
    rw [this]
    exact q
theorem pf__law_asked (X : XF K e [.O, .M, .N, .R, .T]) : ∀ as Qr Qe, sp__law_asked e as Qr Qe → rd__law_asked K e (enOf Qr Qe) (begin_ 6 as) := by
  rintro as Qr Qe ⟨P, l, f, b, rfl, hP, hl, hf, hf1, hb, hb1, q⟩
  have hx : PySem.W.exmOne K (.ref e.Refused) (.ref e.DocketError) = some true := X.exm .R (by simp)
  have zP : Z 1000 P := ⟨Nat.lt_of_le_of_lt hP.2.1 (Nat.lt_of_lt_of_le (show 10 ^ 41 < 2 ^ 140 by decide) (Nat.pow_le_pow_right (by decide) (by decide))), Nat.lt_of_le_of_lt hP.2.2 (Nat.lt_of_lt_of_le (show 10 ^ 31 < 2 ^ 140 by decide) (Nat.pow_le_pow_right (by decide) (by decide)))⟩
  unfold rd__law_asked
  refine seq_i fun k hk => ?_
  simp only [qTry, qSet, qSeq, qIf, qRet, qSet, qAsg, qPar, qDrop, qNx, qRaise, qBk, qCt, qRetN, qAug, pER, pRE, pC, pName, pBin, pTest, pTru, strFit, truD, pAnd, pOr, pNot, pAndV, pOrV, pNotV, pIf, pChain, pNeg, pNil, pCons, pTup, pLst, pIxN, pCB, pCall, pcNil, pcCons, pcSrc, pcFz, pcExc, gtName, gtNil, gtCons, gtTup, gtTupX, gAdd, gMul, gI, gI0, gOrd, gIx, gLen, gInt, gI1, gI2, gGcd, slOf, enOf, begin_, seqAt, atMostOne, Sl.mut, pIsi, isD, isT, tyD, pLenN, pLst1, pLstRev, and_assoc, frzL, blkS, wipeS, toB, ptYes, qSetSrc, gEq, gNe, eqD, flatD, mixD, piSeq, piLst, piRng1, piRng2, piRng3, piFz, PD.gSub, PD.gDiv, PD.gMod, PD.gDivZ, PD.gModZ, PD.gLt, PD.gLe, PD.gGt, PD.gGe, PD.gPow, PD.gShr, PD.gXor, pSlice, pSliceFz, poNone, poSome, qPar3, gLeT, gTupC, pTupN, qSetIx, ownAt, setOwn, pSort, pDictIx, dVal, qSetOpn, qOpn, qPut, gIs, gIsNot, isN, pMt, gAppend, gPop, pChain3, piZip, piEnum, pSortI, pCat, pRep, pLstRg1, pLstRg2, pTupRg1, pInN, gIn, at_h0, at_h1, at_h2, at_h3, at_h4, at_h5, at_h6, at_h7, eqv_ii, eqv_ss, eqv_bb, eqv_is, eqv_si, eqv_nn, eqv_ni, eqv_in, eqv_bi, eqv_ib]
  refine ⟨rfl, P, l, f, b, rfl, zP, hl.ok, by have := hl.len; omega, hf, hf1, hb, hb1, fun h => ?_, fun h => ?_⟩
  · refine (qEx_yes hx).mpr fun a => ?_
    simp [qSeq, qIf, qRet, qSet, qAsg, qPar, qDrop, qNx, qRaise, qBk, qCt, qRetN, qAug, pER, pRE, pC, pName, pBin, pTest, pTru, strFit, truD, pAnd, pOr, pNot, pAndV, pOrV, pNotV, pIf, pChain, pNeg, pNil, pCons, pTup, pLst, pIxN, pCB, pCall, pcNil, pcCons, pcSrc, pcFz, pcExc, gtName, gtNil, gtCons, gtTup, gtTupX, gAdd, gMul, gI, gI0, gOrd, gIx, gLen, gInt, gI1, gI2, gGcd, slOf, enOf, begin_, seqAt, atMostOne, Sl.mut, pIsi, isD, isT, tyD, pLenN, pLst1, pLstRev, and_assoc, frzL, blkS, wipeS, toB, ptYes, qSetSrc, gEq, gNe, eqD, flatD, mixD, piSeq, piLst, piRng1, piRng2, piRng3, piFz, PD.gSub, PD.gDiv, PD.gMod, PD.gDivZ, PD.gModZ, PD.gLt, PD.gLe, PD.gGt, PD.gGe, PD.gPow, PD.gShr, PD.gXor, pSlice, pSliceFz, poNone, poSome, qPar3, gLeT, gTupC, pTupN, qSetIx, ownAt, setOwn, pSort, pDictIx, dVal, qSetOpn, qOpn, qPut, gIs, gIsNot, isN, pMt, gAppend, gPop, pChain3, piZip, piEnum, pSortI, pCat, pRep, pLstRg1, pLstRg2, pTupRg1, pInN, gIn, at_h0, at_h1, at_h2, at_h3, at_h4, at_h5, at_h6, at_h7, eqv_ii, eqv_ss, eqv_bb, eqv_is, eqv_si, eqv_nn, eqv_ni, eqv_in, eqv_bi, eqv_ib, h, spX__law_told]
    exact ⟨.R, rfl, q⟩
  · subst hk
    have h' : ¬ b < f := by omega
    simp [qSeq, qIf, qRet, qSet, qAsg, qPar, qDrop, qNx, qRaise, qBk, qCt, qRetN, qAug, pER, pRE, pC, pName, pBin, pTest, pTru, strFit, truD, pAnd, pOr, pNot, pAndV, pOrV, pNotV, pIf, pChain, pNeg, pNil, pCons, pTup, pLst, pIxN, pCB, pCall, pcNil, pcCons, pcSrc, pcFz, pcExc, gtName, gtNil, gtCons, gtTup, gtTupX, gAdd, gMul, gI, gI0, gOrd, gIx, gLen, gInt, gI1, gI2, gGcd, slOf, enOf, begin_, seqAt, atMostOne, Sl.mut, pIsi, isD, isT, tyD, pLenN, pLst1, pLstRev, and_assoc, frzL, blkS, wipeS, toB, ptYes, qSetSrc, gEq, gNe, eqD, flatD, mixD, piSeq, piLst, piRng1, piRng2, piRng3, piFz, PD.gSub, PD.gDiv, PD.gMod, PD.gDivZ, PD.gModZ, PD.gLt, PD.gLe, PD.gGt, PD.gGe, PD.gPow, PD.gShr, PD.gXor, pSlice, pSliceFz, poNone, poSome, qPar3, gLeT, gTupC, pTupN, qSetIx, ownAt, setOwn, pSort, pDictIx, dVal, qSetOpn, qOpn, qPut, gIs, gIsNot, isN, pMt, gAppend, gPop, pChain3, piZip, piEnum, pSortI, pCat, pRep, pLstRg1, pLstRg2, pTupRg1, pInN, gIn, at_h0, at_h1, at_h2, at_h3, at_h4, at_h5, at_h6, at_h7, eqv_ii, eqv_ss, eqv_bb, eqv_is, eqv_si, eqv_nn, eqv_ni, eqv_in, eqv_bi, eqv_ib, h, sp__law_due]
    refine ⟨P, rfl, l, rfl, hP, hl, hf, hb1, ?_⟩
    have e365 : Rat.divInt 1 365 = 1 / 365 := dv 1 365
    have : P * Px l f b * Rat.divInt 1 365 = P * (Ux l b - Ux l f) / 365 := by
      rw [Px_eq l hl.up f b h, e365]
      grind
    rw [this]
    exact is_rt q
end K48

set_option Elab.async false
set_option linter.all false
set_option maxRecDepth 100000
namespace K48
open PySem L2 PD
open Fr
variable {K : PySem.W.Frag} {e : Ec}
theorem idx3 {i a b c : Int} (h0 : 0 ≤ i) (h1 : i < 3) : ∃ s, atI [PyData.int a, .int b, .int c] i = some (.int s) ∧ (s = a ∨ s = b ∨ s = c) := by
  have : i = 0 ∨ i = 1 ∨ i = 2 := by omega
  rcases this with rfl | rfl | rfl
  · exact ⟨a, rfl, .inl rfl⟩
  · exact ⟨b, rfl, .inr (.inl rfl)⟩
  · exact ⟨c, rfl, .inr (.inr rfl)⟩
theorem unit_row {p w : Int} (hw : 0 < w) (hw2 : w ≤ 10000) (hp : 0 ≤ p) (hpw : p ≤ w) : 0 ≤ (Rat.divInt p w).num ∧ (Rat.divInt p w).num ≤ (Rat.divInt p w).den ∧ (Rat.divInt p w).den ≤ 10000 := by
  have d := (num_le p (show w ≠ 0 by omega)).2
  have h0 : 0 ≤ Rat.divInt p w := Rat.divInt_nonneg hp (by omega)
  have rd := rat_den (Rat.divInt p w)
  have w0 : ((w : Int) : Rat) ≠ 0 := by
    intro z
    have : w = 0 := by exact_mod_cast z
    omega
  have e : (((Rat.divInt p w).num * w : Int) : Rat) = ((p * (Rat.divInt p w).den : Int) : Rat) := by
    rw [Rat.intCast_mul, Rat.intCast_mul, ← rd, dv]
    grind
  have e2 : (Rat.divInt p w).num * w = p * (Rat.divInt p w).den := by exact_mod_cast e
  have e3 : p * ((Rat.divInt p w).den : Int) ≤ (Rat.divInt p w).den * w := by
    rw [Int.mul_comm]
    exact Int.mul_le_mul_of_nonneg_left hpw (by omega)
  refine ⟨Rat.num_nonneg.mpr h0, Int.le_of_mul_le_mul_right (by rw [e2]; exact e3) hw, by omega⟩
theorem up_map : ∀ (l : RS), (l.map (·.1)).Pairwise (· < ·) → Up l
  | [], _ => trivial
  | [_], _ => trivial
  | (d, r) :: (d2, r2) :: t, h => ⟨(List.pairwise_cons.mp h).1 d2 (by simp), up_map ((d2, r2) :: t) (List.pairwise_cons.mp h).2⟩
theorem strict {ms : List Int} (h : ms.Pairwise (· ≤ ·)) (n : ms.Nodup) : ms.Pairwise (· < ·) := by
  induction ms with
  | nil => exact .nil
  | cons m r ih =>
    obtain ⟨h1, h2⟩ := List.pairwise_cons.mp h
    obtain ⟨n1, n2⟩ := List.nodup_cons.mp n
    refine List.pairwise_cons.mpr ⟨fun x hx => ?_, ih h2 n2⟩
    have := h1 x hx
    have : m ≠ x := fun z => n1 (z ▸ hx)
    omega
theorem pf__law_rates (X : XF K e [.O, .M, .N, .R, .T]) : ∀ as Qr Qe, sp__law_rates e as Qr Qe → rd__law_rates K e (enOf Qr Qe) (begin_ 7 as) := by
  rintro as Qr Qe ⟨rfl, q⟩
  unfold rd__law_rates
  refine seq_i fun k hk => ?_
  simp [qSeq, qIf, qRet, qSet, qAsg, qPar, qDrop, qNx, qRaise, qBk, qCt, qRetN, qAug, pER, pRE, pC, pName, pBin, pTest, pTru, strFit, truD, pAnd, pOr, pNot, pAndV, pOrV, pNotV, pIf, pChain, pNeg, pNil, pCons, pTup, pLst, pIxN, pCB, pCall, pcNil, pcCons, pcSrc, pcFz, pcExc, gtName, gtNil, gtCons, gtTup, gtTupX, gAdd, gMul, gI, gI0, gOrd, gIx, gLen, gInt, gI1, gI2, gGcd, slOf, enOf, begin_, seqAt, atMostOne, Sl.mut, pIsi, isD, isT, tyD, pLenN, pLst1, pLstRev, and_assoc, frzL, blkS, wipeS, toB, ptYes, qSetSrc, gEq, gNe, eqD, flatD, mixD, piSeq, piLst, piRng1, piRng2, piRng3, piFz, PD.gSub, PD.gDiv, PD.gMod, PD.gDivZ, PD.gModZ, PD.gLt, PD.gLe, PD.gGt, PD.gGe, PD.gPow, PD.gShr, PD.gXor, pSlice, pSliceFz, poNone, poSome, qPar3, gLeT, gTupC, pTupN, qSetIx, ownAt, setOwn, pSort, pDictIx, dVal, qSetOpn, qOpn, qPut, gIs, gIsNot, isN, pMt, gAppend, gPop, pChain3, piZip, piEnum, pSortI, pCat, pRep, pLstRg1, pLstRg2, pTupRg1, pInN, gIn, at_h0, at_h1, at_h2, at_h3, at_h4, at_h5, at_h6, at_h7, eqv_ii, eqv_ss, eqv_bb, eqv_is, eqv_si, eqv_nn, eqv_ni, eqv_in, eqv_bi, eqv_ib]
  refine ⟨szn 1, ?_⟩
  subst hk
  refine seq_i fun k hk => ?_
  simp [qSeq, qIf, qRet, qSet, qAsg, qPar, qDrop, qNx, qRaise, qBk, qCt, qRetN, qAug, pER, pRE, pC, pName, pBin, pTest, pTru, strFit, truD, pAnd, pOr, pNot, pAndV, pOrV, pNotV, pIf, pChain, pNeg, pNil, pCons, pTup, pLst, pIxN, pCB, pCall, pcNil, pcCons, pcSrc, pcFz, pcExc, gtName, gtNil, gtCons, gtTup, gtTupX, gAdd, gMul, gI, gI0, gOrd, gIx, gLen, gInt, gI1, gI2, gGcd, slOf, enOf, begin_, seqAt, atMostOne, Sl.mut, pIsi, isD, isT, tyD, pLenN, pLst1, pLstRev, and_assoc, frzL, blkS, wipeS, toB, ptYes, qSetSrc, gEq, gNe, eqD, flatD, mixD, piSeq, piLst, piRng1, piRng2, piRng3, piFz, PD.gSub, PD.gDiv, PD.gMod, PD.gDivZ, PD.gModZ, PD.gLt, PD.gLe, PD.gGt, PD.gGe, PD.gPow, PD.gShr, PD.gXor, pSlice, pSliceFz, poNone, poSome, qPar3, gLeT, gTupC, pTupN, qSetIx, ownAt, setOwn, pSort, pDictIx, dVal, qSetOpn, qOpn, qPut, gIs, gIsNot, isN, pMt, gAppend, gPop, pChain3, piZip, piEnum, pSortI, pCat, pRep, pLstRg1, pLstRg2, pTupRg1, pInN, gIn, at_h0, at_h1, at_h2, at_h3, at_h4, at_h5, at_h6, at_h7, eqv_ii, eqv_ss, eqv_bb, eqv_is, eqv_si, eqv_nn, eqv_ni, eqv_in, eqv_bi, eqv_ib, sp__law_draw]
  refine ⟨wdS (by decide), fun near n0 n1 => ?_⟩
  subst hk
  refine seq_i fun k hk => ?_
  obtain ⟨size, hs, hs3⟩ := idx3 (a := 4) (b := 20) (c := 20) n0 n1
  refine for_h fun g b hg hb => ?_
  simp [qSeq, qIf, qRet, qSet, qAsg, qPar, qDrop, qNx, qRaise, qBk, qCt, qRetN, qAug, pER, pRE, pC, pName, pBin, pTest, pTru, strFit, truD, pAnd, pOr, pNot, pAndV, pOrV, pNotV, pIf, pChain, pNeg, pNil, pCons, pTup, pLst, pIxN, pCB, pCall, pcNil, pcCons, pcSrc, pcFz, pcExc, gtName, gtNil, gtCons, gtTup, gtTupX, gAdd, gMul, gI, gI0, gOrd, gIx, gLen, gInt, gI1, gI2, gGcd, slOf, enOf, begin_, seqAt, atMostOne, Sl.mut, pIsi, isD, isT, tyD, pLenN, pLst1, pLstRev, and_assoc, frzL, blkS, wipeS, toB, ptYes, qSetSrc, gEq, gNe, eqD, flatD, mixD, piSeq, piLst, piRng1, piRng2, piRng3, piFz, PD.gSub, PD.gDiv, PD.gMod, PD.gDivZ, PD.gModZ, PD.gLt, PD.gLe, PD.gGt, PD.gGe, PD.gPow, PD.gShr, PD.gXor, pSlice, pSliceFz, poNone, poSome, qPar3, gLeT, gTupC, pTupN, qSetIx, ownAt, setOwn, pSort, pDictIx, dVal, qSetOpn, qOpn, qPut, gIs, gIsNot, isN, pMt, gAppend, gPop, pChain3, piZip, piEnum, pSortI, pCat, pRep, pLstRg1, pLstRg2, pTupRg1, pInN, gIn, at_h0, at_h1, at_h2, at_h3, at_h4, at_h5, at_h6, at_h7, eqv_ii, eqv_ss, eqv_bb, eqv_is, eqv_si, eqv_nn, eqv_ni, eqv_in, eqv_bi, eqv_ib, sp__law_draw]
  refine ⟨szn 3, _, hs, size, rfl, by omega, wdS (by omega), fun many m0 m1 => ?_⟩
  refine ⟨⟨by omega, by omega⟩, fun i ρ => ∃ (ds : List Int) (s_k s_day : Sl), ρ = [.src, .own (ds.map PyData.int), .v (.int near), s_k, s_day, .un, .un] ∧ ds.Nodup ∧ 0 ∈ ds ∧ (∀ d ∈ ds, 0 ≤ d ∧ d ≤ 1000000) ∧ ds.length ≤ i + 1, ?_⟩
  subst hg hb
  refine fb_rng ⟨[0], _, _, rfl, by simp, by simp, by simp, by simp⟩ ?_ ?_
  · rintro i ρ hi ⟨ds, s_k, s_day, rfl, h1, h2, h3, h4⟩
    refine seq_i fun k2 hk2 => ?_
    obtain ⟨size2, hs2, hs4⟩ := idx3 (a := 9) (b := 150) (c := 1000000) n0 n1
    simp [qSeq, qIf, qRet, qSet, qAsg, qPar, qDrop, qNx, qRaise, qBk, qCt, qRetN, qAug, pER, pRE, pC, pName, pBin, pTest, pTru, strFit, truD, pAnd, pOr, pNot, pAndV, pOrV, pNotV, pIf, pChain, pNeg, pNil, pCons, pTup, pLst, pIxN, pCB, pCall, pcNil, pcCons, pcSrc, pcFz, pcExc, gtName, gtNil, gtCons, gtTup, gtTupX, gAdd, gMul, gI, gI0, gOrd, gIx, gLen, gInt, gI1, gI2, gGcd, slOf, enOf, begin_, seqAt, atMostOne, Sl.mut, pIsi, isD, isT, tyD, pLenN, pLst1, pLstRev, and_assoc, frzL, blkS, wipeS, toB, ptYes, qSetSrc, gEq, gNe, eqD, flatD, mixD, piSeq, piLst, piRng1, piRng2, piRng3, piFz, PD.gSub, PD.gDiv, PD.gMod, PD.gDivZ, PD.gModZ, PD.gLt, PD.gLe, PD.gGt, PD.gGe, PD.gPow, PD.gShr, PD.gXor, pSlice, pSliceFz, poNone, poSome, qPar3, gLeT, gTupC, pTupN, qSetIx, ownAt, setOwn, pSort, pDictIx, dVal, qSetOpn, qOpn, qPut, gIs, gIsNot, isN, pMt, gAppend, gPop, pChain3, piZip, piEnum, pSortI, pCat, pRep, pLstRg1, pLstRg2, pTupRg1, pInN, gIn, at_h0, at_h1, at_h2, at_h3, at_h4, at_h5, at_h6, at_h7, eqv_ii, eqv_ss, eqv_bb, eqv_is, eqv_si, eqv_nn, eqv_ni, eqv_in, eqv_bi, eqv_ib, sp__law_draw]
    refine ⟨szn 3, _, hs2, size2, rfl, by omega, wdS (by omega), fun r r0 r1 => ?_⟩
    subst hk2
    simp [qSeq, qIf, qRet, qSet, qAsg, qPar, qDrop, qNx, qRaise, qBk, qCt, qRetN, qAug, pER, pRE, pC, pName, pBin, pTest, pTru, strFit, truD, pAnd, pOr, pNot, pAndV, pOrV, pNotV, pIf, pChain, pNeg, pNil, pCons, pTup, pLst, pIxN, pCB, pCall, pcNil, pcCons, pcSrc, pcFz, pcExc, gtName, gtNil, gtCons, gtTup, gtTupX, gAdd, gMul, gI, gI0, gOrd, gIx, gLen, gInt, gI1, gI2, gGcd, slOf, enOf, begin_, seqAt, atMostOne, Sl.mut, pIsi, isD, isT, tyD, pLenN, pLst1, pLstRev, and_assoc, frzL, blkS, wipeS, toB, ptYes, qSetSrc, gEq, gNe, eqD, flatD, mixD, piSeq, piLst, piRng1, piRng2, piRng3, piFz, PD.gSub, PD.gDiv, PD.gMod, PD.gDivZ, PD.gModZ, PD.gLt, PD.gLe, PD.gGt, PD.gGe, PD.gPow, PD.gShr, PD.gXor, pSlice, pSliceFz, poNone, poSome, qPar3, gLeT, gTupC, pTupN, qSetIx, ownAt, setOwn, pSort, pDictIx, dVal, qSetOpn, qOpn, qPut, gIs, gIsNot, isN, pMt, gAppend, gPop, pChain3, piZip, piEnum, pSortI, pCat, pRep, pLstRg1, pLstRg2, pTupRg1, pInN, gIn, at_h0, at_h1, at_h2, at_h3, at_h4, at_h5, at_h6, at_h7, eqv_ii, eqv_ss, eqv_bb, eqv_is, eqv_si, eqv_nn, eqv_ni, eqv_in, eqv_bi, eqv_ib, gIn, inOk, ints_flat, mem_ints]
    trace_state
    by_cases hm : 1 + r ∈ ds
    · simp [hm]
      exact ⟨ds, rfl, h1, h2, h3, by omega⟩
    · simp [hm]
      refine ⟨szl (by omega), ds ++ [1 + r], by simp, ?_, by simp [h2], fun d hd => ?_, by simp; omega⟩
      · rw [List.nodup_append]
        refine ⟨h1, by simp, fun a ha b hb => ?_⟩
        have : b = 1 + r := by simpa using hb
        subst this
        exact fun z => hm (z ▸ ha)
      · rcases List.mem_append.mp hd with hd | hd
        · exact h3 d hd
        · have : d = 1 + r := by simpa using hd
          omega
  · rintro ρ ⟨ds, s_k, s_day, rfl, h1, h2, h3, h4⟩
    show k _
    subst hk
    have h4 : ds.length ≤ 20 := by omega
    refine seq_i fun k hk => ?_
    simp [qSeq, qIf, qRet, qSet, qAsg, qPar, qDrop, qNx, qRaise, qBk, qCt, qRetN, qAug, pER, pRE, pC, pName, pBin, pTest, pTru, strFit, truD, pAnd, pOr, pNot, pAndV, pOrV, pNotV, pIf, pChain, pNeg, pNil, pCons, pTup, pLst, pIxN, pCB, pCall, pcNil, pcCons, pcSrc, pcFz, pcExc, gtName, gtNil, gtCons, gtTup, gtTupX, gAdd, gMul, gI, gI0, gOrd, gIx, gLen, gInt, gI1, gI2, gGcd, slOf, enOf, begin_, seqAt, atMostOne, Sl.mut, pIsi, isD, isT, tyD, pLenN, pLst1, pLstRev, and_assoc, frzL, blkS, wipeS, toB, ptYes, qSetSrc, gEq, gNe, eqD, flatD, mixD, piSeq, piLst, piRng1, piRng2, piRng3, piFz, PD.gSub, PD.gDiv, PD.gMod, PD.gDivZ, PD.gModZ, PD.gLt, PD.gLe, PD.gGt, PD.gGe, PD.gPow, PD.gShr, PD.gXor, pSlice, pSliceFz, poNone, poSome, qPar3, gLeT, gTupC, pTupN, qSetIx, ownAt, setOwn, pSort, pDictIx, dVal, qSetOpn, qOpn, qPut, gIs, gIsNot, isN, pMt, gAppend, gPop, pChain3, piZip, piEnum, pSortI, pCat, pRep, pLstRg1, pLstRg2, pTupRg1, pInN, gIn, at_h0, at_h1, at_h2, at_h3, at_h4, at_h5, at_h6, at_h7, eqv_ii, eqv_ss, eqv_bb, eqv_is, eqv_si, eqv_nn, eqv_ni, eqv_in, eqv_bi, eqv_ib]
    subst hk
    refine seq_i fun k hk => ?_
    refine for_h fun g b hg hb => ?_
    simp [qSeq, qIf, qRet, qSet, qAsg, qPar, qDrop, qNx, qRaise, qBk, qCt, qRetN, qAug, pER, pRE, pC, pName, pBin, pTest, pTru, strFit, truD, pAnd, pOr, pNot, pAndV, pOrV, pNotV, pIf, pChain, pNeg, pNil, pCons, pTup, pLst, pIxN, pCB, pCall, pcNil, pcCons, pcSrc, pcFz, pcExc, gtName, gtNil, gtCons, gtTup, gtTupX, gAdd, gMul, gI, gI0, gOrd, gIx, gLen, gInt, gI1, gI2, gGcd, slOf, enOf, begin_, seqAt, atMostOne, Sl.mut, pIsi, isD, isT, tyD, pLenN, pLst1, pLstRev, and_assoc, frzL, blkS, wipeS, toB, ptYes, qSetSrc, gEq, gNe, eqD, flatD, mixD, piSeq, piLst, piRng1, piRng2, piRng3, piFz, PD.gSub, PD.gDiv, PD.gMod, PD.gDivZ, PD.gModZ, PD.gLt, PD.gLe, PD.gGt, PD.gGe, PD.gPow, PD.gShr, PD.gXor, pSlice, pSliceFz, poNone, poSome, qPar3, gLeT, gTupC, pTupN, qSetIx, ownAt, setOwn, pSort, pDictIx, dVal, qSetOpn, qOpn, qPut, gIs, gIsNot, isN, pMt, gAppend, gPop, pChain3, piZip, piEnum, pSortI, pCat, pRep, pLstRg1, pLstRg2, pTupRg1, pInN, gIn, at_h0, at_h1, at_h2, at_h3, at_h4, at_h5, at_h6, at_h7, eqv_ii, eqv_ss, eqv_bb, eqv_is, eqv_si, eqv_nn, eqv_ni, eqv_in, eqv_bi, eqv_ib]
    refine ⟨ds, rfl, fun ms pm so => ?_⟩
    have nd := pm.nodup_iff.mpr h1
    have st := strict so nd
    have ml := pm.length_eq
    refine ⟨fun i ρ => ∃ (l : RS) (s_days s_near s_k s_day s_whole : Sl), ρ = [.src, s_days, s_near, s_k, s_day, .own (l.map rowD), s_whole] ∧ l.map (·.1) = ms.take i ∧ ∀ p ∈ l, okRow p, ?_⟩
    subst hg hb
    refine ⟨⟨[], _, _, _, _, _, rfl, rfl, by simp⟩, ?_, ?_⟩
    · rintro i d ρ hd ⟨l, s_days, s_near, s_k, s_day, s_whole, rfl, hl, hok⟩
      obtain ⟨m, hm, rfl⟩ : ∃ m, ms[i]? = some m ∧ d = .int m := by
        rw [List.getElem?_map] at hd
        cases h : ms[i]? with
        | none => rw [h] at hd; cases hd
        | some m => rw [h] at hd; exact ⟨m, rfl, (Option.some.inj hd).symm⟩
      have mb := h3 m (pm.mem_iff.mp (List.mem_of_getElem? hm))
      refine seq_i fun k2 hk2 => ?_
      simp [qSeq, qIf, qRet, qSet, qAsg, qPar, qDrop, qNx, qRaise, qBk, qCt, qRetN, qAug, pER, pRE, pC, pName, pBin, pTest, pTru, strFit, truD, pAnd, pOr, pNot, pAndV, pOrV, pNotV, pIf, pChain, pNeg, pNil, pCons, pTup, pLst, pIxN, pCB, pCall, pcNil, pcCons, pcSrc, pcFz, pcExc, gtName, gtNil, gtCons, gtTup, gtTupX, gAdd, gMul, gI, gI0, gOrd, gIx, gLen, gInt, gI1, gI2, gGcd, slOf, enOf, begin_, seqAt, atMostOne, Sl.mut, pIsi, isD, isT, tyD, pLenN, pLst1, pLstRev, and_assoc, frzL, blkS, wipeS, toB, ptYes, qSetSrc, gEq, gNe, eqD, flatD, mixD, piSeq, piLst, piRng1, piRng2, piRng3, piFz, PD.gSub, PD.gDiv, PD.gMod, PD.gDivZ, PD.gModZ, PD.gLt, PD.gLe, PD.gGt, PD.gGe, PD.gPow, PD.gShr, PD.gXor, pSlice, pSliceFz, poNone, poSome, qPar3, gLeT, gTupC, pTupN, qSetIx, ownAt, setOwn, pSort, pDictIx, dVal, qSetOpn, qOpn, qPut, gIs, gIsNot, isN, pMt, gAppend, gPop, pChain3, piZip, piEnum, pSortI, pCat, pRep, pLstRg1, pLstRg2, pTupRg1, pInN, gIn, at_h0, at_h1, at_h2, at_h3, at_h4, at_h5, at_h6, at_h7, eqv_ii, eqv_ss, eqv_bb, eqv_is, eqv_si, eqv_nn, eqv_ni, eqv_in, eqv_bi, eqv_ib, sp__law_draw]
      refine ⟨szn 3, wdS (by decide), fun r r0 r1 => ?_⟩
      obtain ⟨size2, hs2, hs4⟩ := idx3 (a := 4) (b := 100) (c := 10000) r0 r1
      refine ⟨_, hs2, size2, rfl, by omega, wdS (by omega), fun w w0 w1 => ?_⟩
      subst hk2
      simp [qSeq, qIf, qRet, qSet, qAsg, qPar, qDrop, qNx, qRaise, qBk, qCt, qRetN, qAug, pER, pRE, pC, pName, pBin, pTest, pTru, strFit, truD, pAnd, pOr, pNot, pAndV, pOrV, pNotV, pIf, pChain, pNeg, pNil, pCons, pTup, pLst, pIxN, pCB, pCall, pcNil, pcCons, pcSrc, pcFz, pcExc, gtName, gtNil, gtCons, gtTup, gtTupX, gAdd, gMul, gI, gI0, gOrd, gIx, gLen, gInt, gI1, gI2, gGcd, slOf, enOf, begin_, seqAt, atMostOne, Sl.mut, pIsi, isD, isT, tyD, pLenN, pLst1, pLstRev, and_assoc, frzL, blkS, wipeS, toB, ptYes, qSetSrc, gEq, gNe, eqD, flatD, mixD, piSeq, piLst, piRng1, piRng2, piRng3, piFz, PD.gSub, PD.gDiv, PD.gMod, PD.gDivZ, PD.gModZ, PD.gLt, PD.gLe, PD.gGt, PD.gGe, PD.gPow, PD.gShr, PD.gXor, pSlice, pSliceFz, poNone, poSome, qPar3, gLeT, gTupC, pTupN, qSetIx, ownAt, setOwn, pSort, pDictIx, dVal, qSetOpn, qOpn, qPut, gIs, gIsNot, isN, pMt, gAppend, gPop, pChain3, piZip, piEnum, pSortI, pCat, pRep, pLstRg1, pLstRg2, pTupRg1, pInN, gIn, at_h0, at_h1, at_h2, at_h3, at_h4, at_h5, at_h6, at_h7, eqv_ii, eqv_ss, eqv_bb, eqv_is, eqv_si, eqv_nn, eqv_ni, eqv_in, eqv_bi, eqv_ib, sp__law_draw, sp__law_lowest]
      refine ⟨by omega, wdS (by omega), fun p p0 p1 => ⟨by omega, p0, ?_, ?_, szn 2, ?_, l ++ [(m, Rat.divInt p (1 + w))], ?_, ?_, ?_⟩⟩
      · exact ilift (n := 20) (by rw [show (2 : Nat) ^ 20 = 1048576 by decide]; omega) (by decide)
      · exact ilift (n := 20) (by rw [show (2 : Nat) ^ 20 = 1048576 by decide]; omega) (by decide)
      · have := congrArg List.length hl
        rw [List.length_map, List.length_take] at this
        exact szl (by omega)
      · simp [rowD]
      · rw [List.map_append, hl, List.take_add_one, hm]
        rfl
      · intro a b hx
        rcases List.mem_append.mp hx with hx | hx
        · exact hok _ hx
        · have : (a, b) = (m, Rat.divInt p (1 + w)) := List.mem_singleton.mp hx
          rw [this]
          obtain ⟨u1, u2, u3⟩ := unit_row (p := p) (w := 1 + w) (by omega) (by omega) p0 (by omega)
          exact ⟨mb.1, mb.2, u1, u2, u3⟩
    · rintro ρ ⟨l, s_days, s_near, s_k, s_day, s_whole, rfl, hl, hok⟩
      show k _
      subst hk
      simp at hl
      simp [qSeq, qIf, qRet, qSet, qAsg, qPar, qDrop, qNx, qRaise, qBk, qCt, qRetN, qAug, pER, pRE, pC, pName, pBin, pTest, pTru, strFit, truD, pAnd, pOr, pNot, pAndV, pOrV, pNotV, pIf, pChain, pNeg, pNil, pCons, pTup, pLst, pIxN, pCB, pCall, pcNil, pcCons, pcSrc, pcFz, pcExc, gtName, gtNil, gtCons, gtTup, gtTupX, gAdd, gMul, gI, gI0, gOrd, gIx, gLen, gInt, gI1, gI2, gGcd, slOf, enOf, begin_, seqAt, atMostOne, Sl.mut, pIsi, isD, isT, tyD, pLenN, pLst1, pLstRev, and_assoc, frzL, blkS, wipeS, toB, ptYes, qSetSrc, gEq, gNe, eqD, flatD, mixD, piSeq, piLst, piRng1, piRng2, piRng3, piFz, PD.gSub, PD.gDiv, PD.gMod, PD.gDivZ, PD.gModZ, PD.gLt, PD.gLe, PD.gGt, PD.gGe, PD.gPow, PD.gShr, PD.gXor, pSlice, pSliceFz, poNone, poSome, qPar3, gLeT, gTupC, pTupN, qSetIx, ownAt, setOwn, pSort, pDictIx, dVal, qSetOpn, qOpn, qPut, gIs, gIsNot, isN, pMt, gAppend, gPop, pChain3, piZip, piEnum, pSortI, pCat, pRep, pLstRg1, pLstRg2, pTupRg1, pInN, gIn, at_h0, at_h1, at_h2, at_h3, at_h4, at_h5, at_h6, at_h7, eqv_ii, eqv_ss, eqv_bb, eqv_is, eqv_si, eqv_nn, eqv_ni, eqv_in, eqv_bi, eqv_ib]
      refine q l ⟨?_, up_map l (by rw [hl]; exact st), ?_, hok⟩
      · cases l with
        | nil =>
          rw [← hl] at pm
          have := pm.mem_iff.mpr h2
          simp at this
        | cons p t =>
          have z0 : 0 ∈ (p :: t).map (·.1) := by rw [hl]; exact pm.mem_iff.mpr h2
          have hp := (hok p (by simp)).1
          rw [← hl] at st
          rcases List.mem_cons.mp (show 0 ∈ p.1 :: t.map (·.1) from z0) with z | z
          · exact ⟨p.2, t, by rw [z]⟩
          · have := (List.pairwise_cons.mp (show (p.1 :: t.map (·.1)).Pairwise (· < ·) from st)).1 0 z
            omega
      · have := congrArg List.length hl
        rw [List.length_map] at this
        omega
end K48

set_option Elab.async false
set_option linter.all false
set_option maxRecDepth 100000
namespace K48
open PySem L2 PD
open Fr
variable {K : PySem.W.Frag} {e : Ec}
theorem isRate_rt {r : Rat} (h0 : 0 ≤ r.num) (h1 : r.num ≤ r.den) (h2 : r.den ≤ 10000) : isRate (rt r) = true := by
  have g : gc r.num r.den = 1 := by
    have := r.reduced
    unfold gc
    have e : Nat.gcd r.num.natAbs ((r.den : Int)).natAbs = 1 := this
    rw [e]
    rfl
  have d0 := r.den_pos
  simp [isRate, isFr, rt, g]
  exact ⟨⟨⟨by omega, by omega⟩, by omega, by omega⟩, ⟨Rat.num_nonneg.mp h0, h1⟩, by omega⟩
theorem isPair_row {p : Int × Rat} (h : okRow p) : isPair (rowD p) = true := by
  obtain ⟨a, b, c, d, f⟩ := h
  show (isNum (.int p.1) 0 1000000 && isRate (rt p.2)) = true
  rw [isRate_rt c d f]
  simp [isNum, a, b]
theorem up_get : ∀ (l : RS) (k : Nat), Up l → (h : k + 1 < l.length) → l[k].1 < l[k + 1].1
  | (d, r) :: (d2, r2) :: t, 0, up, h => up.1
  | (d, r) :: (d2, r2) :: t, k + 1, up, h => up_get ((d2, r2) :: t) k up.2 (by simpa using h)
theorem isRates_rs {l : RS} (hl : Rg l) : isRates (rsD l) = true := by
  obtain ⟨r, t, e⟩ := hl.hd
  have h1 : 1 ≤ l.length := by rw [e]; simp
  have hp : (l.map rowD).all isPair = true := List.all_eq_true.mpr fun d hd => by
    obtain ⟨p, hp, rfl⟩ := List.mem_map.mp hd
    exact isPair_row (hl.ok p hp)
  have hf : ∀ k, (h : k < l.length) → fst ((l.map rowD).getD k .none) = l[k].1 := fun k h => by
    rw [List.getD_eq_getElem?_getD, List.getElem?_map, List.getElem?_eq_getElem h]
    rfl
  have hi : incr (l.map rowD) = true := by
    unfold incr
    rw [List.all_eq_true]
    intro k hk
    rw [List.length_map, List.mem_range] at hk
    have := up_get l k hl.up (by omega)
    rw [hf k (by omega), hf (k + 1) (by omega)]
    simpa using this
  have h0 : fst ((l.map rowD).getD 0 .none) = 0 := by
    rw [hf 0 (by omega)]
    subst e
    rfl
  show (decide (1 ≤ (l.map rowD).length) && decide ((l.map rowD).length ≤ 20) && (l.map rowD).all isPair && fst ((l.map rowD).getD 0 .none) == 0 && incr (l.map rowD)) = true
  rw [hp, hi, h0, List.length_map]
  simp [h1, hl.len]
theorem bad_end {A : List PyData} {x : PyData} (h : isPair x = false) : isRates (.tuple (A ++ [x])) = false := by
  have : (A ++ [x]).all isPair = false := by rw [List.all_append]; simp [h]
  unfold isRates
  simp only [this]
  simp
theorem bad_one {x : PyData} (h : isPair x = false) : isRates (.tuple [x]) = false := bad_end (A := []) h
theorem isRate_no {a b : Int} (h : isRate (.tuple [.int a, .int b]) = false) {d : Int} : isPair (.tuple [.int d, .tuple [.int a, .int b]]) = false := by
  show (isNum (.int d) 0 1000000 && isRate (.tuple [.int a, .int b])) = false
  rw [h]
  simp
theorem twice {l : RS} (u : RS) (p : Int × Rat) (e : l = u ++ [p]) : isRates (.tuple (l.map rowD ++ [rowD p])) = false := by
  have : incr (l.map rowD ++ [rowD p]) = false := by
    unfold incr
    rw [List.all_eq_false]
    refine ⟨u.length, by subst e; simp, ?_⟩
    subst e
    simp [List.getElem?_append]
  unfold isRates
  simp only [this]
  simp
theorem pair_l (d : Int) (R : PyData) : isPair (.list [.int d, R]) = false := rfl
theorem pair_l3 (d : Int) (R : PyData) : isPair (.tuple [.int d, R, .int 0]) = false := rfl
theorem pair_b (R : PyData) : isPair (.tuple [.bool true, R]) = false := rfl
theorem pair_big (R : PyData) : isPair (.tuple [.int 1000001, R]) = false := rfl
def bads (u : RS) (d : Int) (R : PyData) : List PyData :=
  [.list (u.map rowD ++ [.tuple [.int d, R]]), .tuple [], .none, .tuple (u.map rowD ++ [.tuple [.int d, R]] ++ [.tuple [.int d, R]]), .tuple [.tuple [.int 1, R]], .tuple (u.map rowD ++ [.tuple [.int d, .tuple [.int 2, .int 4]]]),
    .tuple (u.map rowD ++ [.tuple [.int d, .tuple [.int 3, .int 2]]]), .tuple (u.map rowD ++ [.tuple [.int d, .tuple [.int 1, .int 10001]]]), .tuple (u.map rowD ++ [.tuple [.int d, .tuple [.int (-1), .int 2]]]), .tuple (u.map rowD ++ [.list [.int d, R]]),
    .tuple (u.map rowD ++ [.tuple [.int d, R, .int 0]]), .tuple [.tuple [.bool true, R]], .tuple (u.map rowD ++ [.tuple [.int d, R]] ++ [.tuple [.int 1000001, R]]), .tuple (u.map rowD ++ [.tuple [.int d, .int 0]]), .tuple (u.map rowD ++ [.tuple [.int d, .list [.int 0, .int 1]]]), .tuple [.int 0, R]]
theorem pair_no {d : Int} {x : PyData} (h : isRate x = false) : isPair (.tuple [.int d, x]) = false := by
  show (isNum (.int d) 0 1000000 && isRate x) = false
  rw [h]; simp
theorem bads_no {l : RS} {u : RS} {p : Int × Rat} (e : l = u ++ [p]) : ∀ d ∈ bads u p.1 (rt p.2), isRates d = false := by
  unfold bads
  refine List.forall_mem_cons.mpr ⟨rfl, List.forall_mem_cons.mpr ⟨rfl, List.forall_mem_cons.mpr ⟨rfl, List.forall_mem_cons.mpr ⟨?_, List.forall_mem_cons.mpr ⟨?_, List.forall_mem_cons.mpr ⟨bad_end (pair_no (by decide)), List.forall_mem_cons.mpr ⟨bad_end (pair_no (by decide)), List.forall_mem_cons.mpr ⟨bad_end (pair_no (by decide)), List.forall_mem_cons.mpr ⟨bad_end (pair_no (by decide)), List.forall_mem_cons.mpr ⟨bad_end (pair_l _ _), List.forall_mem_cons.mpr ⟨bad_end (pair_l3 _ _), List.forall_mem_cons.mpr ⟨bad_one (pair_b _), List.forall_mem_cons.mpr ⟨bad_end (pair_big _), List.forall_mem_cons.mpr ⟨bad_end (pair_no rfl), List.forall_mem_cons.mpr ⟨bad_end (pair_no rfl), List.forall_mem_cons.mpr ⟨?_, fun d h => absurd h List.not_mem_nil⟩⟩⟩⟩⟩⟩⟩⟩⟩⟩⟩⟩⟩⟩⟩⟩
  · have := twice u p e
    rw [e, List.map_append] at this
    exact this
  · unfold isRates
    simp [fst]
  · have : ([PyData.int 0, rt p.2].all isPair) = false := by simp [isPair]
    unfold isRates
    simp only [this]
    simp
theorem many_rows {R : PyData} (n : Nat) : ((List.range n).map fun k : Nat => PyData.tuple [.int (k : Int), R]).length = n := by simp
theorem many_yes {r : Rat} (h0 : 0 ≤ r.num) (h1 : r.num ≤ r.den) (h2 : r.den ≤ 10000) : isRates (.tuple ((List.range 20).map fun k : Nat => PyData.tuple [.int (k : Int), rt r])) = true := by
  have hr := isRate_rt h0 h1 h2
  have hp : ((List.range 20).map fun k : Nat => PyData.tuple [.int (k : Int), rt r]).all isPair = true := List.all_eq_true.mpr fun d hd => by
    obtain ⟨k, hk, rfl⟩ := List.mem_map.mp hd
    rw [List.mem_range] at hk
    show (isNum (.int k) 0 1000000 && isRate (rt r)) = true
    rw [hr]
    simp [isNum]
    omega
  unfold isRates
  simp only [hp, many_rows]
  rfl
theorem many_no (R : PyData) : isRates (.tuple ((List.range 21).map fun k : Nat => PyData.tuple [.int (k : Int), R])) = false := by
  unfold isRates
  simp only [many_rows]
  rfl
theorem pf__law_wrong (X : XF K e [.O, .M, .N, .R, .T]) : ∀ as Qr Qe, sp__law_wrong e as Qr Qe → rd__law_wrong K e (enOf Qr Qe) (begin_ 8 as) := by
  rintro as Qr Qe ⟨l, rfl, hl, q⟩
  unfold rd__law_wrong
  obtain ⟨r0, t0, e0⟩ := hl.hd
  obtain ⟨u, p, e⟩ : ∃ u p, l = u ++ [p] := ⟨l.dropLast, l.getLast (by rw [e0]; simp), (List.dropLast_concat_getLast _).symm⟩
  have hlen := hl.len
  have ok := hl.ok p (by rw [e]; simp)
  have rs : rsD l = .tuple (u.map rowD ++ [.tuple [.int p.1, rt p.2]]) := by rw [e]; unfold rsD; rw [List.map_append]; rfl
  have lu : u.length ≤ 19 := by have := congrArg List.length e; simp at this; omega
  have al : ∀ x : PyData, atI (u.map rowD ++ [x]) (-1) = some x := fun x => at_last
  have cb : ∀ x : PyData, cutD (u.map rowD ++ [x]) none (some (-1)) = u.map rowD := fun x => cut_but _ x
  have sz : ∀ n : Nat, n ≤ 100 → n ≤ sizeLine := fun n h => szn n (by omega)
  refine seq_i fun k hk => ?_
  simp [qSeq, qIf, qRet, qSet, qAsg, qPar, qDrop, qNx, qRaise, qBk, qCt, qRetN, qAug, pER, pRE, pC, pName, pBin, pTest, pTru, strFit, truD, pAnd, pOr, pNot, pAndV, pOrV, pNotV, pIf, pChain, pNeg, pNil, pCons, pTup, pLst, pIxN, pCB, pCall, pcNil, pcCons, pcSrc, pcFz, pcExc, gtName, gtNil, gtCons, gtTup, gtTupX, gAdd, gMul, gI, gI0, gOrd, gIx, gLen, gInt, gI1, gI2, gGcd, slOf, enOf, begin_, seqAt, atMostOne, Sl.mut, pIsi, isD, isT, tyD, pLenN, pLst1, pLstRev, and_assoc, frzL, blkS, wipeS, toB, ptYes, qSetSrc, gEq, gNe, eqD, flatD, mixD, piSeq, piLst, piRng1, piRng2, piRng3, piFz, PD.gSub, PD.gDiv, PD.gMod, PD.gDivZ, PD.gModZ, PD.gLt, PD.gLe, PD.gGt, PD.gGe, PD.gPow, PD.gShr, PD.gXor, pSlice, pSliceFz, poNone, poSome, qPar3, gLeT, gTupC, pTupN, qSetIx, ownAt, setOwn, pSort, pDictIx, dVal, qSetOpn, qOpn, qPut, gIs, gIsNot, isN, pMt, gAppend, gPop, pChain3, piZip, piEnum, pSortI, pCat, pRep, pLstRg1, pLstRg2, pTupRg1, pInN, gIn, at_h0, at_h1, at_h2, at_h3, at_h4, at_h5, at_h6, at_h7, eqv_ii, eqv_ss, eqv_bb, eqv_is, eqv_si, eqv_nn, eqv_ni, eqv_in, eqv_bi, eqv_ib, rs, al]
  subst hk
  refine seq_i fun k hk => ?_
  simp [qSeq, qIf, qRet, qSet, qAsg, qPar, qDrop, qNx, qRaise, qBk, qCt, qRetN, qAug, pER, pRE, pC, pName, pBin, pTest, pTru, strFit, truD, pAnd, pOr, pNot, pAndV, pOrV, pNotV, pIf, pChain, pNeg, pNil, pCons, pTup, pLst, pIxN, pCB, pCall, pcNil, pcCons, pcSrc, pcFz, pcExc, gtName, gtNil, gtCons, gtTup, gtTupX, gAdd, gMul, gI, gI0, gOrd, gIx, gLen, gInt, gI1, gI2, gGcd, slOf, enOf, begin_, seqAt, atMostOne, Sl.mut, pIsi, isD, isT, tyD, pLenN, pLst1, pLstRev, and_assoc, frzL, blkS, wipeS, toB, ptYes, qSetSrc, gEq, gNe, eqD, flatD, mixD, piSeq, piLst, piRng1, piRng2, piRng3, piFz, PD.gSub, PD.gDiv, PD.gMod, PD.gDivZ, PD.gModZ, PD.gLt, PD.gLe, PD.gGt, PD.gGe, PD.gPow, PD.gShr, PD.gXor, pSlice, pSliceFz, poNone, poSome, qPar3, gLeT, gTupC, pTupN, qSetIx, ownAt, setOwn, pSort, pDictIx, dVal, qSetOpn, qOpn, qPut, gIs, gIsNot, isN, pMt, gAppend, gPop, pChain3, piZip, piEnum, pSortI, pCat, pRep, pLstRg1, pLstRg2, pTupRg1, pInN, gIn, at_h0, at_h1, at_h2, at_h3, at_h4, at_h5, at_h6, at_h7, eqv_ii, eqv_ss, eqv_bb, eqv_is, eqv_si, eqv_nn, eqv_ni, eqv_in, eqv_bi, eqv_ib, rs, cb]
  subst hk
  refine seq_i fun k hk => ?_
  subst hk
  have z1 := sz 1 (by omega)
  have z2 := sz 2 (by omega)
  have z3 := sz 3 (by omega)
  have zu1 : u.length + 1 ≤ sizeLine := sz _ (by omega)
  have zu2 : u.length + 1 + 1 ≤ sizeLine := sz _ (by omega)
  have pok := isPair_row ok
  have bn := bads_no e
  refine seq_lst (bads u p.1 (rt p.2)) ?_ (sz _ (by simp [bads])) ?_
  · unfold bads
    repeat' refine evA_cons ?_ ?_
    all_goals first
      | exact evA_nil
      | (intro wp Q h; simp [qSeq, qIf, qRet, qSet, qAsg, qPar, qDrop, qNx, qRaise, qBk, qCt, qRetN, qAug, pER, pRE, pC, pName, pBin, pTest, pTru, strFit, truD, pAnd, pOr, pNot, pAndV, pOrV, pNotV, pIf, pChain, pNeg, pNil, pCons, pTup, pLst, pIxN, pCB, pCall, pcNil, pcCons, pcSrc, pcFz, pcExc, gtName, gtNil, gtCons, gtTup, gtTupX, gAdd, gMul, gI, gI0, gOrd, gIx, gLen, gInt, gI1, gI2, gGcd, slOf, enOf, begin_, seqAt, atMostOne, Sl.mut, pIsi, isD, isT, tyD, pLenN, pLst1, pLstRev, and_assoc, frzL, blkS, wipeS, toB, ptYes, qSetSrc, gEq, gNe, eqD, flatD, mixD, piSeq, piLst, piRng1, piRng2, piRng3, piFz, PD.gSub, PD.gDiv, PD.gMod, PD.gDivZ, PD.gModZ, PD.gLt, PD.gLe, PD.gGt, PD.gGe, PD.gPow, PD.gShr, PD.gXor, pSlice, pSliceFz, poNone, poSome, qPar3, gLeT, gTupC, pTupN, qSetIx, ownAt, setOwn, pSort, pDictIx, dVal, qSetOpn, qOpn, qPut, gIs, gIsNot, isN, pMt, gAppend, gPop, pChain3, piZip, piEnum, pSortI, pCat, pRep, pLstRg1, pLstRg2, pTupRg1, pInN, gIn, at_h0, at_h1, at_h2, at_h3, at_h4, at_h5, at_h6, at_h7, eqv_ii, eqv_ss, eqv_bb, eqv_is, eqv_si, eqv_nn, eqv_ni, eqv_in, eqv_bi, eqv_ib, al, cb, rs, z1, z2, z3, zu1, zu2]; first | exact h | (simp at h; exact h))
  · generalize bads u p.1 (rt p.2) = W at bn ⊢
    refine seq_i fun k hk => ?_
    refine for_chk (.list W) W (fun d => !isRates d) (fun x => [.v (.tuple (u.map rowD ++ [.tuple [.int p.1, rt p.2]])), .v (.int p.1), .v (rt p.2), .v (.tuple (u.map rowD)), .v (.list W), x, .un, .un]) .un (.inl rfl) (fun x d N hd hN hb => ?_) (fun hg x => ?_) (fun h => ?_)
    · cases hr : isRates d <;> simp [qSeq, qIf, qRet, qSet, qAsg, qPar, qDrop, qNx, qRaise, qBk, qCt, qRetN, qAug, pER, pRE, pC, pName, pBin, pTest, pTru, strFit, truD, pAnd, pOr, pNot, pAndV, pOrV, pNotV, pIf, pChain, pNeg, pNil, pCons, pTup, pLst, pIxN, pCB, pCall, pcNil, pcCons, pcSrc, pcFz, pcExc, gtName, gtNil, gtCons, gtTup, gtTupX, gAdd, gMul, gI, gI0, gOrd, gIx, gLen, gInt, gI1, gI2, gGcd, slOf, enOf, begin_, seqAt, atMostOne, Sl.mut, pIsi, isD, isT, tyD, pLenN, pLst1, pLstRev, and_assoc, frzL, blkS, wipeS, toB, ptYes, qSetSrc, gEq, gNe, eqD, flatD, mixD, piSeq, piLst, piRng1, piRng2, piRng3, piFz, PD.gSub, PD.gDiv, PD.gMod, PD.gDivZ, PD.gModZ, PD.gLt, PD.gLe, PD.gGt, PD.gGe, PD.gPow, PD.gShr, PD.gXor, pSlice, pSliceFz, poNone, poSome, qPar3, gLeT, gTupC, pTupN, qSetIx, ownAt, setOwn, pSort, pDictIx, dVal, qSetOpn, qOpn, qPut, gIs, gIsNot, isN, pMt, gAppend, gPop, pChain3, piZip, piEnum, pSortI, pCat, pRep, pLstRg1, pLstRg2, pTupRg1, pInN, gIn, at_h0, at_h1, at_h2, at_h3, at_h4, at_h5, at_h6, at_h7, eqv_ii, eqv_ss, eqv_bb, eqv_is, eqv_si, eqv_nn, eqv_ni, eqv_in, eqv_bi, eqv_ib, sp_is_rates, hr] at hN hb ⊢
      · exact hN
      · exact hb
    · show k _
      subst hk
      have hm : (rngD 0 21).filterMap (fun d => some (PyData.tuple [d, rt p.2])) = (List.range 21).map fun k : Nat => PyData.tuple [.int (k : Int), rt p.2] := by rfl
      refine seq_i fun k hk => ?_
      simp only [qSet, pER, pCB, pCons, pRE]
      refine lc_fm (rngD 0 21) [.v (.tuple (u.map rowD ++ [.tuple [.int p.1, rt p.2]])), .v (.int p.1), .v (rt p.2), .v (.tuple (u.map rowD)), .v (.list W), x, .un, .un] (fun d => some (.tuple [d, rt p.2])) (by simp [rngD]; exact szl (by omega)) (fun d hd Y N hY hN => ?_) ?_ ?_
      · simp [qSeq, qIf, qRet, qSet, qAsg, qPar, qDrop, qNx, qRaise, qBk, qCt, qRetN, qAug, pER, pRE, pC, pName, pBin, pTest, pTru, strFit, truD, pAnd, pOr, pNot, pAndV, pOrV, pNotV, pIf, pChain, pNeg, pNil, pCons, pTup, pLst, pIxN, pCB, pCall, pcNil, pcCons, pcSrc, pcFz, pcExc, gtName, gtNil, gtCons, gtTup, gtTupX, gAdd, gMul, gI, gI0, gOrd, gIx, gLen, gInt, gI1, gI2, gGcd, slOf, enOf, begin_, seqAt, atMostOne, Sl.mut, pIsi, isD, isT, tyD, pLenN, pLst1, pLstRev, and_assoc, frzL, blkS, wipeS, toB, ptYes, qSetSrc, gEq, gNe, eqD, flatD, mixD, piSeq, piLst, piRng1, piRng2, piRng3, piFz, PD.gSub, PD.gDiv, PD.gMod, PD.gDivZ, PD.gModZ, PD.gLt, PD.gLe, PD.gGt, PD.gGe, PD.gPow, PD.gShr, PD.gXor, pSlice, pSliceFz, poNone, poSome, qPar3, gLeT, gTupC, pTupN, qSetIx, ownAt, setOwn, pSort, pDictIx, dVal, qSetOpn, qOpn, qPut, gIs, gIsNot, isN, pMt, gAppend, gPop, pChain3, piZip, piEnum, pSortI, pCat, pRep, pLstRg1, pLstRg2, pTupRg1, pInN, gIn, at_h0, at_h1, at_h2, at_h3, at_h4, at_h5, at_h6, at_h7, eqv_ii, eqv_ss, eqv_bb, eqv_is, eqv_si, eqv_nn, eqv_ni, eqv_in, eqv_bi, eqv_ib, z2]
        exact hY _ _ rfl rfl
      · rw [hm]
        simp [qSeq, qIf, qRet, qSet, qAsg, qPar, qDrop, qNx, qRaise, qBk, qCt, qRetN, qAug, pER, pRE, pC, pName, pBin, pTest, pTru, strFit, truD, pAnd, pOr, pNot, pAndV, pOrV, pNotV, pIf, pChain, pNeg, pNil, pCons, pTup, pLst, pIxN, pCB, pCall, pcNil, pcCons, pcSrc, pcFz, pcExc, gtName, gtNil, gtCons, gtTup, gtTupX, gAdd, gMul, gI, gI0, gOrd, gIx, gLen, gInt, gI1, gI2, gGcd, slOf, enOf, begin_, seqAt, atMostOne, Sl.mut, pIsi, isD, isT, tyD, pLenN, pLst1, pLstRev, and_assoc, frzL, blkS, wipeS, toB, ptYes, qSetSrc, gEq, gNe, eqD, flatD, mixD, piSeq, piLst, piRng1, piRng2, piRng3, piFz, PD.gSub, PD.gDiv, PD.gMod, PD.gDivZ, PD.gModZ, PD.gLt, PD.gLe, PD.gGt, PD.gGe, PD.gPow, PD.gShr, PD.gXor, pSlice, pSliceFz, poNone, poSome, qPar3, gLeT, gTupC, pTupN, qSetIx, ownAt, setOwn, pSort, pDictIx, dVal, qSetOpn, qOpn, qPut, gIs, gIsNot, isN, pMt, gAppend, gPop, pChain3, piZip, piEnum, pSortI, pCat, pRep, pLstRg1, pLstRg2, pTupRg1, pInN, gIn, at_h0, at_h1, at_h2, at_h3, at_h4, at_h5, at_h6, at_h7, eqv_ii, eqv_ss, eqv_bb, eqv_is, eqv_si, eqv_nn, eqv_ni, eqv_in, eqv_bi, eqv_ib]
        subst hk
        have ct : cutD ((List.range 21).map fun k : Nat => PyData.tuple [.int (k : Int), rt p.2]) none (some 20) = (List.range 20).map fun k : Nat => PyData.tuple [.int (k : Int), rt p.2] := rfl
        have y := many_yes ok.2.2.1 ok.2.2.2.1 ok.2.2.2.2
        have n := many_no (rt p.2)
        simp [qSeq, qIf, qRet, qSet, qAsg, qPar, qDrop, qNx, qRaise, qBk, qCt, qRetN, qAug, pER, pRE, pC, pName, pBin, pTest, pTru, strFit, truD, pAnd, pOr, pNot, pAndV, pOrV, pNotV, pIf, pChain, pNeg, pNil, pCons, pTup, pLst, pIxN, pCB, pCall, pcNil, pcCons, pcSrc, pcFz, pcExc, gtName, gtNil, gtCons, gtTup, gtTupX, gAdd, gMul, gI, gI0, gOrd, gIx, gLen, gInt, gI1, gI2, gGcd, slOf, enOf, begin_, seqAt, atMostOne, Sl.mut, pIsi, isD, isT, tyD, pLenN, pLst1, pLstRev, and_assoc, frzL, blkS, wipeS, toB, ptYes, qSetSrc, gEq, gNe, eqD, flatD, mixD, piSeq, piLst, piRng1, piRng2, piRng3, piFz, PD.gSub, PD.gDiv, PD.gMod, PD.gDivZ, PD.gModZ, PD.gLt, PD.gLe, PD.gGt, PD.gGe, PD.gPow, PD.gShr, PD.gXor, pSlice, pSliceFz, poNone, poSome, qPar3, gLeT, gTupC, pTupN, qSetIx, ownAt, setOwn, pSort, pDictIx, dVal, qSetOpn, qOpn, qPut, gIs, gIsNot, isN, pMt, gAppend, gPop, pChain3, piZip, piEnum, pSortI, pCat, pRep, pLstRg1, pLstRg2, pTupRg1, pInN, gIn, at_h0, at_h1, at_h2, at_h3, at_h4, at_h5, at_h6, at_h7, eqv_ii, eqv_ss, eqv_bb, eqv_is, eqv_si, eqv_nn, eqv_ni, eqv_in, eqv_bi, eqv_ib, ct, sp_is_rates, y, n]
        exact q
      · intro Q h
        simp [qSeq, qIf, qRet, qSet, qAsg, qPar, qDrop, qNx, qRaise, qBk, qCt, qRetN, qAug, pER, pRE, pC, pName, pBin, pTest, pTru, strFit, truD, pAnd, pOr, pNot, pAndV, pOrV, pNotV, pIf, pChain, pNeg, pNil, pCons, pTup, pLst, pIxN, pCB, pCall, pcNil, pcCons, pcSrc, pcFz, pcExc, gtName, gtNil, gtCons, gtTup, gtTupX, gAdd, gMul, gI, gI0, gOrd, gIx, gLen, gInt, gI1, gI2, gGcd, slOf, enOf, begin_, seqAt, atMostOne, Sl.mut, pIsi, isD, isT, tyD, pLenN, pLst1, pLstRev, and_assoc, frzL, blkS, wipeS, toB, ptYes, qSetSrc, gEq, gNe, eqD, flatD, mixD, piSeq, piLst, piRng1, piRng2, piRng3, piFz, PD.gSub, PD.gDiv, PD.gMod, PD.gDivZ, PD.gModZ, PD.gLt, PD.gLe, PD.gGt, PD.gGe, PD.gPow, PD.gShr, PD.gXor, pSlice, pSliceFz, poNone, poSome, qPar3, gLeT, gTupC, pTupN, qSetIx, ownAt, setOwn, pSort, pDictIx, dVal, qSetOpn, qOpn, qPut, gIs, gIsNot, isN, pMt, gAppend, gPop, pChain3, piZip, piEnum, pSortI, pCat, pRep, pLstRg1, pLstRg2, pTupRg1, pInN, gIn, at_h0, at_h1, at_h2, at_h3, at_h4, at_h5, at_h6, at_h7, eqv_ii, eqv_ss, eqv_bb, eqv_is, eqv_si, eqv_nn, eqv_ni, eqv_in, eqv_bi, eqv_ib]
        exact ⟨⟨by omega, by omega⟩, h⟩
    · exfalso
      obtain ⟨d, hd, hn⟩ := List.all_eq_false.mp h
      rw [bn d hd] at hn
      exact hn rfl
end K48

set_option Elab.async false
set_option linter.all false
set_option maxRecDepth 100000
namespace K48
open PySem L2 PD
open Fr
variable {K : PySem.W.Frag} {e : Ec}
theorem cut_split {l : RS} {i : Nat} (h : i < l.length) : l = l.take i ++ (l[i].1, l[i].2) :: l.drop (i + 1) ∧ l.take (i + 1) ++ (l[i].1 + 1, l[i].2) :: l.drop (i + 1) = l.take i ++ (l[i].1, l[i].2) :: (l[i].1 + 1, l[i].2) :: l.drop (i + 1) := by
  constructor
  · have := List.take_append_drop i l
    rw [List.drop_eq_getElem_cons h] at this
    exact this.symm
  · rw [List.take_add_one, List.getElem?_eq_getElem h, List.append_assoc]
    rfl
theorem cut_same {l : RS} (hl : Rg l) {i : Nat} (h : i < l.length) (hn : l[i].1 + 1 < nxt l i 1000001) {f b : Int} (hf : 0 ≤ f) (hb : f ≤ b) : Px (l.take (i + 1) ++ (l[i].1 + 1, l[i].2) :: l.drop (i + 1)) f b = Px l f b := by
  obtain ⟨e1, e2⟩ := cut_split h
  have up := hl.up
  have hh : ∀ p ∈ (l.drop (i + 1)).head?, l[i].1 + 1 < p.1 := by
    intro p hp
    rw [List.head?_drop] at hp
    obtain ⟨h2, rfl⟩ := List.getElem?_eq_some_iff.mp hp
    unfold nxt at hn
    rw [dif_pos h2] at hn
    exact hn
  rw [e2]
  have up1 : Up (l.take i ++ (l[i].1, l[i].2) :: l.drop (i + 1)) := by rw [← e1]; exact up
  have up2 := up_cut _ _ _ _ up1 hh
  have rc := rho_cut _ _ _ _ up1 hh
  rw [← e1] at rc
  rw [Px_eq _ up2 f b hb, Px_eq _ up f b hb]
  obtain ⟨r, t, e⟩ := hl.hd
  obtain ⟨n, hn⟩ := Int.eq_ofNat_of_zero_le (a := b - f) (by omega)
  have : b = f + n := by omega
  rw [this]
  have e' : ∃ r' t', l.take i ++ (l[i].1, l[i].2) :: (l[i].1 + 1, l[i].2) :: l.drop (i + 1) = (0, r') :: t' := by
    cases i with
    | zero => subst e; exact ⟨_, _, rfl⟩
    | succ i => subst e; exact ⟨_, _, rfl⟩
  obtain ⟨r', t', e'⟩ := e'
  exact Ux_same e' e up2 up (fun x _ => rc x) f hf n
theorem cut_ok {l : RS} (hl : Rg l) {i : Nat} (h : i < l.length) (hn : l[i].1 + 1 < 1000001) : ∀ p ∈ l.take (i + 1) ++ (l[i].1 + 1, l[i].2) :: l.drop (i + 1), okRow p := by
  intro p hp
  rcases List.mem_append.mp hp with hp | hp
  · exact hl.ok p (List.mem_of_mem_take hp)
  · rcases List.mem_cons.mp hp with rfl | hp
    · obtain ⟨a, b, c⟩ := hl.ok l[i] (List.getElem_mem h)
      exact ⟨by show 0 ≤ l[i].1 + 1; omega, by show l[i].1 + 1 ≤ 1000000; omega, c⟩
    · exact hl.ok p (List.mem_of_mem_drop hp)
theorem if_h {t : PTT} {a b : PTS} {P : PEn} {ρ : List Sl} (h : ∀ a' b', a' = a → b' = b → qIf t a' b' P ρ) : qIf t a b P ρ := h a b rfl rfl
theorem int_ok {P : Rat} {l : RS} {f b : Int} {Q : Rt → Prop} {E : Value → Prop} (hz : Z 1000 P) (hl : ∀ p ∈ l, okRow p) (len : l.length ≤ 21) (f0 : 0 ≤ f) (f1 : f ≤ 1000001) (hfb : f ≤ b) (b1 : b ≤ 1000001) (q : Q (.v (rt (P * Px l f b * Rat.divInt 1 365)))) :
    sp_interest e [.v (rt P), .v (.tuple (l.map rowD)), .v (.int f), .v (.int b)] Q E :=
  ⟨P, l, f, b, rfl, hz, hl, len, f0, f1, by omega, b1, fun h => absurd h (by omega), fun _ => q⟩
theorem rt_eqv (r : Rat) : PyData.eqv (rt r) (rt r) = true := by simp [rt, PyData.eqv, PyData.eqvAll]
theorem rt_eqD (r s : Rat) : eqD (rt r) (rt s) := .inr ⟨rfl, rfl⟩
theorem len_rs (l : RS) : (l.map rowD).length = l.length := List.length_map _
theorem at_rs {l : RS} {i : Int} (h0 : 0 ≤ i) (h1 : i < l.length) : ∃ k : Nat, ∃ h : k < l.length, i = k ∧ atI (l.map rowD) i = some (rowD l[k]) := by
  obtain ⟨k, rfl⟩ := Int.eq_ofNat_of_zero_le h0
  have hk : k < l.length := by omega
  exact ⟨k, hk, rfl, atI_nat (by rw [List.getElem?_map, List.getElem?_eq_getElem hk]; rfl)⟩
theorem okP_div {p w : Int} (h0 : 0 ≤ p) (h1 : p ≤ 10 ^ 41) (w0 : 0 < w) (w1 : w ≤ 10 ^ 31) : okP (Rat.divInt p w) := by
  obtain ⟨a, b⟩ := num_le p (show w ≠ 0 by omega)
  exact ⟨Rat.num_nonneg.mpr (Rat.divInt_nonneg h0 (by omega)), by omega, by omega⟩
theorem pf_law (X : XF K e [.O, .M, .N, .R, .T]) : ∀ as Qr Qe, pLaw as Qr Qe → rd_law K e (enOf Qr Qe) (begin_ 15 as) := by
  rintro as Qr Qe ⟨ns, rfl, hns, q⟩
  unfold rd_law
  refine seq_i fun k hk => ?_
  refine And.intro rfl ?_
  refine ⟨ns, rfl, hns, fun cs hcs => And.intro ⟨0, 0, cs, rfl, hcs⟩ ?_⟩
  show k _
  subst hk
  refine seq_i fun k hk => ?_
  have fin : ∀ (s_turn s_rates s_whole s_principal s_days s_low s_spans s_first s_behind s_at s_end s_cut s_last : Sl), k [.fz (ns.map PyData.int), .src, s_turn, s_rates, s_whole, s_principal, s_days, s_low, s_spans, s_first, s_behind, s_at, s_end, s_cut, s_last] := by
    intros
    subst hk
    simpa [qSeq, qIf, qRet, qSet, qAsg, qPar, qDrop, qNx, qRaise, qBk, qCt, qRetN, qAug, pER, pRE, pC, pName, pBin, pTest, pTru, strFit, truD, pAnd, pOr, pNot, pAndV, pOrV, pNotV, pIf, pChain, pNeg, pNil, pCons, pTup, pLst, pIxN, pCB, pCall, pcNil, pcCons, pcSrc, pcFz, pcExc, gtName, gtNil, gtCons, gtTup, gtTupX, gAdd, gMul, gI, gI0, gOrd, gIx, gLen, gInt, gI1, gI2, gGcd, slOf, enOf, begin_, seqAt, atMostOne, Sl.mut, pIsi, isD, isT, tyD, pLenN, pLst1, pLstRev, and_assoc, frzL, blkS, wipeS, toB, ptYes, qSetSrc, gEq, gNe, eqD, flatD, mixD, piSeq, piLst, piRng1, piRng2, piRng3, piFz, PD.gSub, PD.gDiv, PD.gMod, PD.gDivZ, PD.gModZ, PD.gLt, PD.gLe, PD.gGt, PD.gGe, PD.gPow, PD.gShr, PD.gXor, pSlice, pSliceFz, poNone, poSome, qPar3, gLeT, gTupC, pTupN, qSetIx, ownAt, setOwn, pSort, pDictIx, dVal, qSetOpn, qOpn, qPut, gIs, gIsNot, isN, pMt, gAppend, gPop, pChain3, piZip, piEnum, pSortI, pCat, pRep, pLstRg1, pLstRg2, pTupRg1, pInN, gIn, at_h0, at_h1, at_h2, at_h3, at_h4, at_h5, at_h6, at_h7, eqv_ii, eqv_ss, eqv_bb, eqv_is, eqv_si, eqv_nn, eqv_ni, eqv_in, eqv_bi, eqv_ib] using q
  clear hk
  refine for_h fun g b hg hb => ?_
  simp [qSeq, qIf, qRet, qSet, qAsg, qPar, qDrop, qNx, qRaise, qBk, qCt, qRetN, qAug, pER, pRE, pC, pName, pBin, pTest, pTru, strFit, truD, pAnd, pOr, pNot, pAndV, pOrV, pNotV, pIf, pChain, pNeg, pNil, pCons, pTup, pLst, pIxN, pCB, pCall, pcNil, pcCons, pcSrc, pcFz, pcExc, gtName, gtNil, gtCons, gtTup, gtTupX, gAdd, gMul, gI, gI0, gOrd, gIx, gLen, gInt, gI1, gI2, gGcd, slOf, enOf, begin_, seqAt, atMostOne, Sl.mut, pIsi, isD, isT, tyD, pLenN, pLst1, pLstRev, and_assoc, frzL, blkS, wipeS, toB, ptYes, qSetSrc, gEq, gNe, eqD, flatD, mixD, piSeq, piLst, piRng1, piRng2, piRng3, piFz, PD.gSub, PD.gDiv, PD.gMod, PD.gDivZ, PD.gModZ, PD.gLt, PD.gLe, PD.gGt, PD.gGe, PD.gPow, PD.gShr, PD.gXor, pSlice, pSliceFz, poNone, poSome, qPar3, gLeT, gTupC, pTupN, qSetIx, ownAt, setOwn, pSort, pDictIx, dVal, qSetOpn, qOpn, qPut, gIs, gIsNot, isN, pMt, gAppend, gPop, pChain3, piZip, piEnum, pSortI, pCat, pRep, pLstRg1, pLstRg2, pTupRg1, pInN, gIn, at_h0, at_h1, at_h2, at_h3, at_h4, at_h5, at_h6, at_h7, eqv_ii, eqv_ss, eqv_bb, eqv_is, eqv_si, eqv_nn, eqv_ni, eqv_in, eqv_bi, eqv_ib, sp__law_draw]
  refine ⟨wdS (by decide), fun turns t0 t1 => ⟨⟨by omega, by omega⟩, fun i ρ => ∃ (s_turn s_rates s_whole s_principal s_days s_low s_spans s_first s_behind s_at s_end s_cut s_last : Sl), ρ = [.fz (ns.map PyData.int), .src, s_turn, s_rates, s_whole, s_principal, s_days, s_low, s_spans, s_first, s_behind, s_at, s_end, s_cut, s_last], ?_⟩⟩
  subst hg hb
  refine fb_rng ⟨_, _, _, _, _, _, _, _, _, _, _, _, _, rfl⟩ ?_ ?_
  · rintro i ρ hi ⟨s_turn, s_rates, s_whole, s_principal, s_days, s_low, s_spans, s_first, s_behind, s_at, s_end, s_cut, s_last, rfl⟩
    refine seq_i fun k2 hk2 => ?_
    simp [qSeq, qIf, qRet, qSet, qAsg, qPar, qDrop, qNx, qRaise, qBk, qCt, qRetN, qAug, pER, pRE, pC, pName, pBin, pTest, pTru, strFit, truD, pAnd, pOr, pNot, pAndV, pOrV, pNotV, pIf, pChain, pNeg, pNil, pCons, pTup, pLst, pIxN, pCB, pCall, pcNil, pcCons, pcSrc, pcFz, pcExc, gtName, gtNil, gtCons, gtTup, gtTupX, gAdd, gMul, gI, gI0, gOrd, gIx, gLen, gInt, gI1, gI2, gGcd, slOf, enOf, begin_, seqAt, atMostOne, Sl.mut, pIsi, isD, isT, tyD, pLenN, pLst1, pLstRev, and_assoc, frzL, blkS, wipeS, toB, ptYes, qSetSrc, gEq, gNe, eqD, flatD, mixD, piSeq, piLst, piRng1, piRng2, piRng3, piFz, PD.gSub, PD.gDiv, PD.gMod, PD.gDivZ, PD.gModZ, PD.gLt, PD.gLe, PD.gGt, PD.gGe, PD.gPow, PD.gShr, PD.gXor, pSlice, pSliceFz, poNone, poSome, qPar3, gLeT, gTupC, pTupN, qSetIx, ownAt, setOwn, pSort, pDictIx, dVal, qSetOpn, qOpn, qPut, gIs, gIsNot, isN, pMt, gAppend, gPop, pChain3, piZip, piEnum, pSortI, pCat, pRep, pLstRg1, pLstRg2, pTupRg1, pInN, gIn, at_h0, at_h1, at_h2, at_h3, at_h4, at_h5, at_h6, at_h7, eqv_ii, eqv_ss, eqv_bb, eqv_is, eqv_si, eqv_nn, eqv_ni, eqv_in, eqv_bi, eqv_ib, sp__law_rates]
    intro l hl
    subst hk2
    have isr := isRates_rs hl
    obtain ⟨r0, t0', e0⟩ := hl.hd
    have l1 : 1 ≤ l.length := by rw [e0]; simp
    have l20 := hl.len
    refine seq_i fun k2 hk2 => ?_
    simp [qSeq, qIf, qRet, qSet, qAsg, qPar, qDrop, qNx, qRaise, qBk, qCt, qRetN, qAug, pER, pRE, pC, pName, pBin, pTest, pTru, strFit, truD, pAnd, pOr, pNot, pAndV, pOrV, pNotV, pIf, pChain, pNeg, pNil, pCons, pTup, pLst, pIxN, pCB, pCall, pcNil, pcCons, pcSrc, pcFz, pcExc, gtName, gtNil, gtCons, gtTup, gtTupX, gAdd, gMul, gI, gI0, gOrd, gIx, gLen, gInt, gI1, gI2, gGcd, slOf, enOf, begin_, seqAt, atMostOne, Sl.mut, pIsi, isD, isT, tyD, pLenN, pLst1, pLstRev, and_assoc, frzL, blkS, wipeS, toB, ptYes, qSetSrc, gEq, gNe, eqD, flatD, mixD, piSeq, piLst, piRng1, piRng2, piRng3, piFz, PD.gSub, PD.gDiv, PD.gMod, PD.gDivZ, PD.gModZ, PD.gLt, PD.gLe, PD.gGt, PD.gGe, PD.gPow, PD.gShr, PD.gXor, pSlice, pSliceFz, poNone, poSome, qPar3, gLeT, gTupC, pTupN, qSetIx, ownAt, setOwn, pSort, pDictIx, dVal, qSetOpn, qOpn, qPut, gIs, gIsNot, isN, pMt, gAppend, gPop, pChain3, piZip, piEnum, pSortI, pCat, pRep, pLstRg1, pLstRg2, pTupRg1, pInN, gIn, at_h0, at_h1, at_h2, at_h3, at_h4, at_h5, at_h6, at_h7, eqv_ii, eqv_ss, eqv_bb, eqv_is, eqv_si, eqv_nn, eqv_ni, eqv_in, eqv_bi, eqv_ib, sp_is_rates, isr]
    refine ⟨l, rfl, hl, ?_⟩
    simp
    subst hk2
    refine seq_i fun k2 hk2 => ?_
    simp [qSeq, qIf, qRet, qSet, qAsg, qPar, qDrop, qNx, qRaise, qBk, qCt, qRetN, qAug, pER, pRE, pC, pName, pBin, pTest, pTru, strFit, truD, pAnd, pOr, pNot, pAndV, pOrV, pNotV, pIf, pChain, pNeg, pNil, pCons, pTup, pLst, pIxN, pCB, pCall, pcNil, pcCons, pcSrc, pcFz, pcExc, gtName, gtNil, gtCons, gtTup, gtTupX, gAdd, gMul, gI, gI0, gOrd, gIx, gLen, gInt, gI1, gI2, gGcd, slOf, enOf, begin_, seqAt, atMostOne, Sl.mut, pIsi, isD, isT, tyD, pLenN, pLst1, pLstRev, and_assoc, frzL, blkS, wipeS, toB, ptYes, qSetSrc, gEq, gNe, eqD, flatD, mixD, piSeq, piLst, piRng1, piRng2, piRng3, piFz, PD.gSub, PD.gDiv, PD.gMod, PD.gDivZ, PD.gModZ, PD.gLt, PD.gLe, PD.gGt, PD.gGe, PD.gPow, PD.gShr, PD.gXor, pSlice, pSliceFz, poNone, poSome, qPar3, gLeT, gTupC, pTupN, qSetIx, ownAt, setOwn, pSort, pDictIx, dVal, qSetOpn, qOpn, qPut, gIs, gIsNot, isN, pMt, gAppend, gPop, pChain3, piZip, piEnum, pSortI, pCat, pRep, pLstRg1, pLstRg2, pTupRg1, pInN, gIn, at_h0, at_h1, at_h2, at_h3, at_h4, at_h5, at_h6, at_h7, eqv_ii, eqv_ss, eqv_bb, eqv_is, eqv_si, eqv_nn, eqv_ni, eqv_in, eqv_bi, eqv_ib, sp__law_draw, sp__law_wide]
    refine ⟨powS (by decide), szn 3, wdS (by decide), fun w0 a0 a1 => ?_⟩
    obtain ⟨wb, h1, h2⟩ := idx3 (a := 1) (b := 50) (c := 1000000000000000000000000000000) a0 a1
    refine ⟨_, h1, wb, rfl, by omega, fun ww b0 b1 => ?_⟩
    subst hk2
    refine seq_i fun k2 hk2 => ?_
    simp [qSeq, qIf, qRet, qSet, qAsg, qPar, qDrop, qNx, qRaise, qBk, qCt, qRetN, qAug, pER, pRE, pC, pName, pBin, pTest, pTru, strFit, truD, pAnd, pOr, pNot, pAndV, pOrV, pNotV, pIf, pChain, pNeg, pNil, pCons, pTup, pLst, pIxN, pCB, pCall, pcNil, pcCons, pcSrc, pcFz, pcExc, gtName, gtNil, gtCons, gtTup, gtTupX, gAdd, gMul, gI, gI0, gOrd, gIx, gLen, gInt, gI1, gI2, gGcd, slOf, enOf, begin_, seqAt, atMostOne, Sl.mut, pIsi, isD, isT, tyD, pLenN, pLst1, pLstRev, and_assoc, frzL, blkS, wipeS, toB, ptYes, qSetSrc, gEq, gNe, eqD, flatD, mixD, piSeq, piLst, piRng1, piRng2, piRng3, piFz, PD.gSub, PD.gDiv, PD.gMod, PD.gDivZ, PD.gModZ, PD.gLt, PD.gLe, PD.gGt, PD.gGe, PD.gPow, PD.gShr, PD.gXor, pSlice, pSliceFz, poNone, poSome, qPar3, gLeT, gTupC, pTupN, qSetIx, ownAt, setOwn, pSort, pDictIx, dVal, qSetOpn, qOpn, qPut, gIs, gIsNot, isN, pMt, gAppend, gPop, pChain3, piZip, piEnum, pSortI, pCat, pRep, pLstRg1, pLstRg2, pTupRg1, pInN, gIn, at_h0, at_h1, at_h2, at_h3, at_h4, at_h5, at_h6, at_h7, eqv_ii, eqv_ss, eqv_bb, eqv_is, eqv_si, eqv_nn, eqv_ni, eqv_in, eqv_bi, eqv_ib, sp__law_draw, sp__law_wide, sp__law_lowest]
    refine ⟨powS (by decide), powS (by decide), szn 3, wdS (by decide), fun w3 a0 a1 => ?_⟩
    obtain ⟨pb, g1, g2⟩ := idx3 (a := 2) (b := 1000000000000) (c := 10000000000000000000000000000000000000000) a0 a1
    refine ⟨_, g1, pb, rfl, by omega, fun pp c0 c1 => ?_⟩
    have p2 : pp < 2 ^ 200 := by rw [show (2 : Int) ^ 200 = 1606938044258990275541962092341162602522202993782792835301376 by decide]; omega
    have ww2 : 1 + ww < 2 ^ 200 := by rw [show (2 : Int) ^ 200 = 1606938044258990275541962092341162602522202993782792835301376 by decide]; omega
    refine ⟨by omega, c0, ilift (n := 200) (by omega) (by decide), ilift (n := 200) (by omega) (by decide), ?_⟩
    subst hk2
    have hP : okP (Rat.divInt pp (1 + ww)) := okP_div c0 (by omega) (by omega) (by omega)
    generalize Rat.divInt pp (1 + ww) = P at hP ⊢
    generalize 1 + ww = w1
    refine seq_i fun k2 hk2 => ?_
    simp [qSeq, qIf, qRet, qSet, qAsg, qPar, qDrop, qNx, qRaise, qBk, qCt, qRetN, qAug, pER, pRE, pC, pName, pBin, pTest, pTru, strFit, truD, pAnd, pOr, pNot, pAndV, pOrV, pNotV, pIf, pChain, pNeg, pNil, pCons, pTup, pLst, pIxN, pCB, pCall, pcNil, pcCons, pcSrc, pcFz, pcExc, gtName, gtNil, gtCons, gtTup, gtTupX, gAdd, gMul, gI, gI0, gOrd, gIx, gLen, gInt, gI1, gI2, gGcd, slOf, enOf, begin_, seqAt, atMostOne, Sl.mut, pIsi, isD, isT, tyD, pLenN, pLst1, pLstRev, and_assoc, frzL, blkS, wipeS, toB, ptYes, qSetSrc, gEq, gNe, eqD, flatD, mixD, piSeq, piLst, piRng1, piRng2, piRng3, piFz, PD.gSub, PD.gDiv, PD.gMod, PD.gDivZ, PD.gModZ, PD.gLt, PD.gLe, PD.gGt, PD.gGe, PD.gPow, PD.gShr, PD.gXor, pSlice, pSliceFz, poNone, poSome, qPar3, gLeT, gTupC, pTupN, qSetIx, ownAt, setOwn, pSort, pDictIx, dVal, qSetOpn, qOpn, qPut, gIs, gIsNot, isN, pMt, gAppend, gPop, pChain3, piZip, piEnum, pSortI, pCat, pRep, pLstRg1, pLstRg2, pTupRg1, pInN, gIn, at_h0, at_h1, at_h2, at_h3, at_h4, at_h5, at_h6, at_h7, eqv_ii, eqv_ss, eqv_bb, eqv_is, eqv_si, eqv_nn, eqv_ni, eqv_in, eqv_bi, eqv_ib, sp__law_draw, rsD]
    refine ⟨wdS (by decide), fun d1 d10 d11 => ⟨wdS (by decide), fun d2 d20 d21 => ⟨by omega, wdS (by omega), fun at0 a20 a21 => ?_⟩⟩⟩
    obtain ⟨n0, hn0, rfl, ha⟩ := at_rs a20 a21
    have okn := hl.ok l[n0] (List.getElem_mem hn0)
    refine ⟨_, ha, ?_⟩
    simp [rowD, atI, ixN]
    refine ⟨szn 3, [d1, d2, l[n0].1], rfl, fun ms hp hw => ?_⟩
    have bd : ∀ x ∈ ms, 0 ≤ x ∧ x ≤ 1000000 := by
      intro x hx
      have := hp.subset hx
      have o1 := okn.1
      have o2 := okn.2.1
      simp at this
      omega
    have len3 : ms.length = 3 := by simpa using hp.length_eq
    match ms, len3 with
    | [x, y, z], _ =>
    have bx := bd x (by simp)
    have b_y := bd y (by simp)
    have bz := bd z (by simp)
    have xy : x ≤ y ∧ x ≤ z ∧ y ≤ z := by
      simp at hw
      omega
    clear bd hp hw len3
    subst hk2
    refine seq_i fun k2 hk2 => ?_
    simp [qSeq, qIf, qRet, qSet, qAsg, qPar, qDrop, qNx, qRaise, qBk, qCt, qRetN, qAug, pER, pRE, pC, pName, pBin, pTest, pTru, strFit, truD, pAnd, pOr, pNot, pAndV, pOrV, pNotV, pIf, pChain, pNeg, pNil, pCons, pTup, pLst, pIxN, pCB, pCall, pcNil, pcCons, pcSrc, pcFz, pcExc, gtName, gtNil, gtCons, gtTup, gtTupX, gAdd, gMul, gI, gI0, gOrd, gIx, gLen, gInt, gI1, gI2, gGcd, slOf, enOf, begin_, seqAt, atMostOne, Sl.mut, pIsi, isD, isT, tyD, pLenN, pLst1, pLstRev, and_assoc, frzL, blkS, wipeS, toB, ptYes, qSetSrc, gEq, gNe, eqD, flatD, mixD, piSeq, piLst, piRng1, piRng2, piRng3, piFz, PD.gSub, PD.gDiv, PD.gMod, PD.gDivZ, PD.gModZ, PD.gLt, PD.gLe, PD.gGt, PD.gGe, PD.gPow, PD.gShr, PD.gXor, pSlice, pSliceFz, poNone, poSome, qPar3, gLeT, gTupC, pTupN, qSetIx, ownAt, setOwn, pSort, pDictIx, dVal, qSetOpn, qOpn, qPut, gIs, gIsNot, isN, pMt, gAppend, gPop, pChain3, piZip, piEnum, pSortI, pCat, pRep, pLstRg1, pLstRg2, pTupRg1, pInN, gIn, at_h0, at_h1, at_h2, at_h3, at_h4, at_h5, at_h6, at_h7, eqv_ii, eqv_ss, eqv_bb, eqv_is, eqv_si, eqv_nn, eqv_ni, eqv_in, eqv_bi, eqv_ib, sp__law_draw]
    refine ⟨wdS (by decide), fun lo0 m0 m1 => ?_⟩
    obtain ⟨lo, hlo, n1, n2⟩ : ∃ lo : Int, (if lo0 < 999880 then lo0 else 999880) = lo ∧ 0 ≤ lo ∧ lo < 160 := ⟨_, rfl, by split <;> omega, by split <;> omega⟩
    rw [hlo]
    clear hlo
    subst hk2
    refine seq_i fun k2 hk2 => ?_
    simp [qSeq, qIf, qRet, qSet, qAsg, qPar, qDrop, qNx, qRaise, qBk, qCt, qRetN, qAug, pER, pRE, pC, pName, pBin, pTest, pTru, strFit, truD, pAnd, pOr, pNot, pAndV, pOrV, pNotV, pIf, pChain, pNeg, pNil, pCons, pTup, pLst, pIxN, pCB, pCall, pcNil, pcCons, pcSrc, pcFz, pcExc, gtName, gtNil, gtCons, gtTup, gtTupX, gAdd, gMul, gI, gI0, gOrd, gIx, gLen, gInt, gI1, gI2, gGcd, slOf, enOf, begin_, seqAt, atMostOne, Sl.mut, pIsi, isD, isT, tyD, pLenN, pLst1, pLstRev, and_assoc, frzL, blkS, wipeS, toB, ptYes, qSetSrc, gEq, gNe, eqD, flatD, mixD, piSeq, piLst, piRng1, piRng2, piRng3, piFz, PD.gSub, PD.gDiv, PD.gMod, PD.gDivZ, PD.gModZ, PD.gLt, PD.gLe, PD.gGt, PD.gGe, PD.gPow, PD.gShr, PD.gXor, pSlice, pSliceFz, poNone, poSome, qPar3, gLeT, gTupC, pTupN, qSetIx, ownAt, setOwn, pSort, pDictIx, dVal, qSetOpn, qOpn, qPut, gIs, gIsNot, isN, pMt, gAppend, gPop, pChain3, piZip, piEnum, pSortI, pCat, pRep, pLstRg1, pLstRg2, pTupRg1, pInN, gIn, at_h0, at_h1, at_h2, at_h3, at_h4, at_h5, at_h6, at_h7, eqv_ii, eqv_ss, eqv_bb, eqv_is, eqv_si, eqv_nn, eqv_ni, eqv_in, eqv_bi, eqv_ib, sp__law_draw]
    refine ⟨szn 2, wdS (by decide), fun up u0 u1 => ⟨szn 2, szn 8, ?_⟩⟩
    subst hk2
    refine seq_i fun k2 hk2 => ?_
    generalize hsp : [PyData.tuple [PyData.int x, PyData.int y], PyData.tuple [PyData.int y, PyData.int z],
                        PyData.tuple [PyData.int x, PyData.int z], PyData.tuple [PyData.int lo, PyData.int (lo + up)],
                        PyData.tuple [PyData.int lo, PyData.int lo], PyData.tuple [PyData.int z, PyData.int x],
                        PyData.tuple [PyData.int (lo + 1), PyData.int lo],
                        PyData.tuple [PyData.int 0, PyData.int 1000000]] = sp
    have hsp2 : ∀ d ∈ sp, ∃ f b : Int, d = .tuple [.int f, .int b] ∧ 0 ≤ f ∧ f ≤ 1000001 ∧ 0 ≤ b ∧ b ≤ 1000001 := by
      subst hsp
      simp only [List.mem_cons, List.not_mem_nil, or_false]
      rintro d (rfl | rfl | rfl | rfl | rfl | rfl | rfl | rfl) <;> exact ⟨_, _, rfl, by omega, by omega, by omega, by omega⟩
    refine for_seq (.list sp) sp (fun j ρ => ∃ s_first s_behind, ρ = [.fz (ns.map PyData.int), .src, .v (.int i), .v (.tuple (l.map rowD)), .v (.int w1), .v (rt P), .own [.int x, .int y, .int z], .v (.int lo), .v (.list sp), s_first, s_behind, s_at, s_end, s_cut, s_last]) (.inl rfl) ⟨s_first, s_behind, rfl⟩ ?_ ?_
    · rintro j d ρ hd ⟨s1, s2, rfl⟩
      obtain ⟨f, b, rfl, f0, f1, b0, b1⟩ := hsp2 d (List.mem_of_getElem? hd)
      simp [qSeq, qIf, qRet, qSet, qAsg, qPar, qDrop, qNx, qRaise, qBk, qCt, qRetN, qAug, pER, pRE, pC, pName, pBin, pTest, pTru, strFit, truD, pAnd, pOr, pNot, pAndV, pOrV, pNotV, pIf, pChain, pNeg, pNil, pCons, pTup, pLst, pIxN, pCB, pCall, pcNil, pcCons, pcSrc, pcFz, pcExc, gtName, gtNil, gtCons, gtTup, gtTupX, gAdd, gMul, gI, gI0, gOrd, gIx, gLen, gInt, gI1, gI2, gGcd, slOf, enOf, begin_, seqAt, atMostOne, Sl.mut, pIsi, isD, isT, tyD, pLenN, pLst1, pLstRev, and_assoc, frzL, blkS, wipeS, toB, ptYes, qSetSrc, gEq, gNe, eqD, flatD, mixD, piSeq, piLst, piRng1, piRng2, piRng3, piFz, PD.gSub, PD.gDiv, PD.gMod, PD.gDivZ, PD.gModZ, PD.gLt, PD.gLe, PD.gGt, PD.gGe, PD.gPow, PD.gShr, PD.gXor, pSlice, pSliceFz, poNone, poSome, qPar3, gLeT, gTupC, pTupN, qSetIx, ownAt, setOwn, pSort, pDictIx, dVal, qSetOpn, qOpn, qPut, gIs, gIsNot, isN, pMt, gAppend, gPop, pChain3, piZip, piEnum, pSortI, pCat, pRep, pLstRg1, pLstRg2, pTupRg1, pInN, gIn, at_h0, at_h1, at_h2, at_h3, at_h4, at_h5, at_h6, at_h7, eqv_ii, eqv_ss, eqv_bb, eqv_is, eqv_si, eqv_nn, eqv_ni, eqv_in, eqv_bi, eqv_ib]
      refine ⟨P, l, f, b, rfl, hP, hl, f0, f1, b0, b1, ?_⟩
      simp
    · clear s_first s_behind
      rintro ρ ⟨s_first, s_behind, rfl⟩
      show k2 _
      subst hk2
      refine seq_i fun k2 hk2 => ?_
      simp [qSeq, qIf, qRet, qSet, qAsg, qPar, qDrop, qNx, qRaise, qBk, qCt, qRetN, qAug, pER, pRE, pC, pName, pBin, pTest, pTru, strFit, truD, pAnd, pOr, pNot, pAndV, pOrV, pNotV, pIf, pChain, pNeg, pNil, pCons, pTup, pLst, pIxN, pCB, pCall, pcNil, pcCons, pcSrc, pcFz, pcExc, gtName, gtNil, gtCons, gtTup, gtTupX, gAdd, gMul, gI, gI0, gOrd, gIx, gLen, gInt, gI1, gI2, gGcd, slOf, enOf, begin_, seqAt, atMostOne, Sl.mut, pIsi, isD, isT, tyD, pLenN, pLst1, pLstRev, and_assoc, frzL, blkS, wipeS, toB, ptYes, qSetSrc, gEq, gNe, eqD, flatD, mixD, piSeq, piLst, piRng1, piRng2, piRng3, piFz, PD.gSub, PD.gDiv, PD.gMod, PD.gDivZ, PD.gModZ, PD.gLt, PD.gLe, PD.gGt, PD.gGe, PD.gPow, PD.gShr, PD.gXor, pSlice, pSliceFz, poNone, poSome, qPar3, gLeT, gTupC, pTupN, qSetIx, ownAt, setOwn, pSort, pDictIx, dVal, qSetOpn, qOpn, qPut, gIs, gIsNot, isN, pMt, gAppend, gPop, pChain3, piZip, piEnum, pSortI, pCat, pRep, pLstRg1, pLstRg2, pTupRg1, pInN, gIn, at_h0, at_h1, at_h2, at_h3, at_h4, at_h5, at_h6, at_h7, eqv_ii, eqv_ss, eqv_bb, eqv_is, eqv_si, eqv_nn, eqv_ni, eqv_in, eqv_bi, eqv_ib, sp__law_draw]
      refine ⟨by omega, wdS (by omega), fun at1 a30 a31 => ?_⟩
      obtain ⟨n, hn, rfl, hat⟩ := at_rs a30 a31
      have okn1 := hl.ok l[n] (List.getElem_mem hn)
      subst hk2
      refine seq_i fun k2 hk2 => ?_
      have main : k2 [.fz (ns.map PyData.int), .src, .v (.int i), .v (.tuple (l.map rowD)), .v (.int w1), .v (rt P), .own [.int x, .int y, .int z], .v (.int lo), .v (.list sp), s_first, s_behind, .v (.int n), .v (.int (nxt l n 1000001)), s_cut, s_last] := by
        subst hk2
        have c1 : cutD (l.map rowD) none (some ((n : Int) + 1)) = (l.take (n + 1)).map rowD := by
          rw [show (n : Int) + 1 = ((n + 1 : Nat) : Int) by omega, cut_to, List.map_take]
        have c2 : cutD (l.map rowD) (some ((n : Int) + 1)) none = (l.drop (n + 1)).map rowD := by
          rw [show (n : Int) + 1 = ((n + 1 : Nat) : Int) by omega, cut_from, List.map_drop]
        refine if_h fun A B hA hB => ?_
        have hat : atI (l.map rowD) n = some (.tuple [.int l[n].1, rt l[n].2]) := hat
        simp [qSeq, qIf, qRet, qSet, qAsg, qPar, qDrop, qNx, qRaise, qBk, qCt, qRetN, qAug, pER, pRE, pC, pName, pBin, pTest, pTru, strFit, truD, pAnd, pOr, pNot, pAndV, pOrV, pNotV, pIf, pChain, pNeg, pNil, pCons, pTup, pLst, pIxN, pCB, pCall, pcNil, pcCons, pcSrc, pcFz, pcExc, gtName, gtNil, gtCons, gtTup, gtTupX, gAdd, gMul, gI, gI0, gOrd, gIx, gLen, gInt, gI1, gI2, gGcd, slOf, enOf, begin_, seqAt, atMostOne, Sl.mut, pIsi, isD, isT, tyD, pLenN, pLst1, pLstRev, and_assoc, frzL, blkS, wipeS, toB, ptYes, qSetSrc, gEq, gNe, eqD, flatD, mixD, piSeq, piLst, piRng1, piRng2, piRng3, piFz, PD.gSub, PD.gDiv, PD.gMod, PD.gDivZ, PD.gModZ, PD.gLt, PD.gLe, PD.gGt, PD.gGe, PD.gPow, PD.gShr, PD.gXor, pSlice, pSliceFz, poNone, poSome, qPar3, gLeT, gTupC, pTupN, qSetIx, ownAt, setOwn, pSort, pDictIx, dVal, qSetOpn, qOpn, qPut, gIs, gIsNot, isN, pMt, gAppend, gPop, pChain3, piZip, piEnum, pSortI, pCat, pRep, pLstRg1, pLstRg2, pTupRg1, pInN, gIn, at_h0, at_h1, at_h2, at_h3, at_h4, at_h5, at_h6, at_h7, eqv_ii, eqv_ss, eqv_bb, eqv_is, eqv_si, eqv_nn, eqv_ni, eqv_in, eqv_bi, eqv_ib, hat, at_h0]
        split
        · split
          · subst hA
            rename_i g1 g2
            have g1 : l.length < 20 := by omega
            refine seq_i fun k3 hk3 => ?_
            simp [qSeq, qIf, qRet, qSet, qAsg, qPar, qDrop, qNx, qRaise, qBk, qCt, qRetN, qAug, pER, pRE, pC, pName, pBin, pTest, pTru, strFit, truD, pAnd, pOr, pNot, pAndV, pOrV, pNotV, pIf, pChain, pNeg, pNil, pCons, pTup, pLst, pIxN, pCB, pCall, pcNil, pcCons, pcSrc, pcFz, pcExc, gtName, gtNil, gtCons, gtTup, gtTupX, gAdd, gMul, gI, gI0, gOrd, gIx, gLen, gInt, gI1, gI2, gGcd, slOf, enOf, begin_, seqAt, atMostOne, Sl.mut, pIsi, isD, isT, tyD, pLenN, pLst1, pLstRev, and_assoc, frzL, blkS, wipeS, toB, ptYes, qSetSrc, gEq, gNe, eqD, flatD, mixD, piSeq, piLst, piRng1, piRng2, piRng3, piFz, PD.gSub, PD.gDiv, PD.gMod, PD.gDivZ, PD.gModZ, PD.gLt, PD.gLe, PD.gGt, PD.gGe, PD.gPow, PD.gShr, PD.gXor, pSlice, pSliceFz, poNone, poSome, qPar3, gLeT, gTupC, pTupN, qSetIx, ownAt, setOwn, pSort, pDictIx, dVal, qSetOpn, qOpn, qPut, gIs, gIsNot, isN, pMt, gAppend, gPop, pChain3, piZip, piEnum, pSortI, pCat, pRep, pLstRg1, pLstRg2, pTupRg1, pInN, gIn, at_h0, at_h1, at_h2, at_h3, at_h4, at_h5, at_h6, at_h7, eqv_ii, eqv_ss, eqv_bb, eqv_is, eqv_si, eqv_nn, eqv_ni, eqv_in, eqv_bi, eqv_ib, hat, at_h0, at_h1, c1, c2]
            refine ⟨szn 2, szn 1, szn _ (by omega), szn _ (by omega), ?_⟩
            have ce : List.take (n + 1) (l.map rowD) ++ PyData.tuple [.int (l[n].1 + 1), rt l[n].2] :: List.drop (n + 1) (l.map rowD) = (l.take (n + 1) ++ (l[n].1 + 1, l[n].2) :: l.drop (n + 1)).map rowD := by
              rw [← List.map_take, ← List.map_drop, List.map_append]
              rfl
            have n9 : l[n].1 + 1 < 1000001 := by
              unfold nxt at g2
              split at g2
              · rename_i h2
                have := (hl.ok l[n + 1] (List.getElem_mem h2)).2.1
                omega
              · exact g2
            have okc := cut_ok hl hn n9
            have same := fun f b h1 h2 => cut_same hl hn g2 (f := f) (b := b) h1 h2
            have lc : (l.take (n + 1) ++ (l[n].1 + 1, l[n].2) :: l.drop (n + 1)).length ≤ 21 := by simp; omega
            rw [ce]
            generalize l.take (n + 1) ++ (l[n].1 + 1, l[n].2) :: l.drop (n + 1) = cut at okc same lc
            clear ce hat c1 c2
            subst hk3
            refine seq_i fun k3 hk3 => ?_
            simp [qSeq, qIf, qRet, qSet, qAsg, qPar, qDrop, qNx, qRaise, qBk, qCt, qRetN, qAug, pER, pRE, pC, pName, pBin, pTest, pTru, strFit, truD, pAnd, pOr, pNot, pAndV, pOrV, pNotV, pIf, pChain, pNeg, pNil, pCons, pTup, pLst, pIxN, pCB, pCall, pcNil, pcCons, pcSrc, pcFz, pcExc, gtName, gtNil, gtCons, gtTup, gtTupX, gAdd, gMul, gI, gI0, gOrd, gIx, gLen, gInt, gI1, gI2, gGcd, slOf, enOf, begin_, seqAt, atMostOne, Sl.mut, pIsi, isD, isT, tyD, pLenN, pLst1, pLstRev, and_assoc, frzL, blkS, wipeS, toB, ptYes, qSetSrc, gEq, gNe, eqD, flatD, mixD, piSeq, piLst, piRng1, piRng2, piRng3, piFz, PD.gSub, PD.gDiv, PD.gMod, PD.gDivZ, PD.gModZ, PD.gLt, PD.gLe, PD.gGt, PD.gGe, PD.gPow, PD.gShr, PD.gXor, pSlice, pSliceFz, poNone, poSome, qPar3, gLeT, gTupC, pTupN, qSetIx, ownAt, setOwn, pSort, pDictIx, dVal, qSetOpn, qOpn, qPut, gIs, gIsNot, isN, pMt, gAppend, gPop, pChain3, piZip, piEnum, pSortI, pCat, pRep, pLstRg1, pLstRg2, pTupRg1, pInN, gIn, at_h0, at_h1, at_h2, at_h3, at_h4, at_h5, at_h6, at_h7, eqv_ii, eqv_ss, eqv_bb, eqv_is, eqv_si, eqv_nn, eqv_ni, eqv_in, eqv_bi, eqv_ib, at_h2]
            obtain ⟨la, hla, q1, q2⟩ : ∃ la : Int, (if z < lo then lo else z) = la ∧ lo ≤ la ∧ la ≤ 1000001 := ⟨_, rfl, by split <;> omega, by split <;> omega⟩
            rw [hla]
            clear hla
            subst hk3
            have zP : Z 1000 P := Z.mono (n := 150) ⟨Nat.lt_of_le_of_lt hP.2.1 (by decide +kernel), Nat.lt_of_le_of_lt hP.2.2 (by decide +kernel)⟩ (by omega)
            simp [qSeq, qIf, qRet, qSet, qAsg, qPar, qDrop, qNx, qRaise, qBk, qCt, qRetN, qAug, pER, pRE, pC, pName, pBin, pTest, pTru, strFit, truD, pAnd, pOr, pNot, pAndV, pOrV, pNotV, pIf, pChain, pNeg, pNil, pCons, pTup, pLst, pIxN, pCB, pCall, pcNil, pcCons, pcSrc, pcFz, pcExc, gtName, gtNil, gtCons, gtTup, gtTupX, gAdd, gMul, gI, gI0, gOrd, gIx, gLen, gInt, gI1, gI2, gGcd, slOf, enOf, begin_, seqAt, atMostOne, Sl.mut, pIsi, isD, isT, tyD, pLenN, pLst1, pLstRev, and_assoc, frzL, blkS, wipeS, toB, ptYes, qSetSrc, gEq, gNe, eqD, flatD, mixD, piSeq, piLst, piRng1, piRng2, piRng3, piFz, PD.gSub, PD.gDiv, PD.gMod, PD.gDivZ, PD.gModZ, PD.gLt, PD.gLe, PD.gGt, PD.gGe, PD.gPow, PD.gShr, PD.gXor, pSlice, pSliceFz, poNone, poSome, qPar3, gLeT, gTupC, pTupN, qSetIx, ownAt, setOwn, pSort, pDictIx, dVal, qSetOpn, qOpn, qPut, gIs, gIsNot, isN, pMt, gAppend, gPop, pChain3, piZip, piEnum, pSortI, pCat, pRep, pLstRg1, pLstRg2, pTupRg1, pInN, gIn, at_h0, at_h1, at_h2, at_h3, at_h4, at_h5, at_h6, at_h7, eqv_ii, eqv_ss, eqv_bb, eqv_is, eqv_si, eqv_nn, eqv_ni, eqv_in, eqv_bi, eqv_ib]
            refine int_ok zP okc lc (by omega) (by omega) q1 q2 ?_
            simp
            refine int_ok zP hl.ok (by omega) (by omega) (by omega) q1 q2 ?_
            rw [same _ _ n1 q1]
            simp
            refine ⟨.inr rfl, fun h => ?_⟩
            rw [rt_eqv] at h
            cases h
          · subst hB
            simp [qSeq, qIf, qRet, qSet, qAsg, qPar, qDrop, qNx, qRaise, qBk, qCt, qRetN, qAug, pER, pRE, pC, pName, pBin, pTest, pTru, strFit, truD, pAnd, pOr, pNot, pAndV, pOrV, pNotV, pIf, pChain, pNeg, pNil, pCons, pTup, pLst, pIxN, pCB, pCall, pcNil, pcCons, pcSrc, pcFz, pcExc, gtName, gtNil, gtCons, gtTup, gtTupX, gAdd, gMul, gI, gI0, gOrd, gIx, gLen, gInt, gI1, gI2, gGcd, slOf, enOf, begin_, seqAt, atMostOne, Sl.mut, pIsi, isD, isT, tyD, pLenN, pLst1, pLstRev, and_assoc, frzL, blkS, wipeS, toB, ptYes, qSetSrc, gEq, gNe, eqD, flatD, mixD, piSeq, piLst, piRng1, piRng2, piRng3, piFz, PD.gSub, PD.gDiv, PD.gMod, PD.gDivZ, PD.gModZ, PD.gLt, PD.gLe, PD.gGt, PD.gGe, PD.gPow, PD.gShr, PD.gXor, pSlice, pSliceFz, poNone, poSome, qPar3, gLeT, gTupC, pTupN, qSetIx, ownAt, setOwn, pSort, pDictIx, dVal, qSetOpn, qOpn, qPut, gIs, gIsNot, isN, pMt, gAppend, gPop, pChain3, piZip, piEnum, pSortI, pCat, pRep, pLstRg1, pLstRg2, pTupRg1, pInN, gIn, at_h0, at_h1, at_h2, at_h3, at_h4, at_h5, at_h6, at_h7, eqv_ii, eqv_ss, eqv_bb, eqv_is, eqv_si, eqv_nn, eqv_ni, eqv_in, eqv_bi, eqv_ib]
        · subst hB
          simp [qSeq, qIf, qRet, qSet, qAsg, qPar, qDrop, qNx, qRaise, qBk, qCt, qRetN, qAug, pER, pRE, pC, pName, pBin, pTest, pTru, strFit, truD, pAnd, pOr, pNot, pAndV, pOrV, pNotV, pIf, pChain, pNeg, pNil, pCons, pTup, pLst, pIxN, pCB, pCall, pcNil, pcCons, pcSrc, pcFz, pcExc, gtName, gtNil, gtCons, gtTup, gtTupX, gAdd, gMul, gI, gI0, gOrd, gIx, gLen, gInt, gI1, gI2, gGcd, slOf, enOf, begin_, seqAt, atMostOne, Sl.mut, pIsi, isD, isT, tyD, pLenN, pLst1, pLstRev, and_assoc, frzL, blkS, wipeS, toB, ptYes, qSetSrc, gEq, gNe, eqD, flatD, mixD, piSeq, piLst, piRng1, piRng2, piRng3, piFz, PD.gSub, PD.gDiv, PD.gMod, PD.gDivZ, PD.gModZ, PD.gLt, PD.gLe, PD.gGt, PD.gGe, PD.gPow, PD.gShr, PD.gXor, pSlice, pSliceFz, poNone, poSome, qPar3, gLeT, gTupC, pTupN, qSetIx, ownAt, setOwn, pSort, pDictIx, dVal, qSetOpn, qOpn, qPut, gIs, gIsNot, isN, pMt, gAppend, gPop, pChain3, piZip, piEnum, pSortI, pCat, pRep, pLstRg1, pLstRg2, pTupRg1, pInN, gIn, at_h0, at_h1, at_h2, at_h3, at_h4, at_h5, at_h6, at_h7, eqv_ii, eqv_ss, eqv_bb, eqv_is, eqv_si, eqv_nn, eqv_ni, eqv_in, eqv_bi, eqv_ib]
      clear hk2
      by_cases h2 : n + 1 < l.length
      · have hnx : atI (l.map rowD) ((n : Int) + 1) = some (.tuple [.int l[n + 1].1, rt l[n + 1].2]) := atI_nat (j := n + 1) (by rw [List.getElem?_map, List.getElem?_eq_getElem h2]; rfl)
        have g : ((n : Int) + 1 < l.length) := by omega
        unfold nxt at main
        rw [dif_pos h2] at main
        simp [qSeq, qIf, qRet, qSet, qAsg, qPar, qDrop, qNx, qRaise, qBk, qCt, qRetN, qAug, pER, pRE, pC, pName, pBin, pTest, pTru, strFit, truD, pAnd, pOr, pNot, pAndV, pOrV, pNotV, pIf, pChain, pNeg, pNil, pCons, pTup, pLst, pIxN, pCB, pCall, pcNil, pcCons, pcSrc, pcFz, pcExc, gtName, gtNil, gtCons, gtTup, gtTupX, gAdd, gMul, gI, gI0, gOrd, gIx, gLen, gInt, gI1, gI2, gGcd, slOf, enOf, begin_, seqAt, atMostOne, Sl.mut, pIsi, isD, isT, tyD, pLenN, pLst1, pLstRev, and_assoc, frzL, blkS, wipeS, toB, ptYes, qSetSrc, gEq, gNe, eqD, flatD, mixD, piSeq, piLst, piRng1, piRng2, piRng3, piFz, PD.gSub, PD.gDiv, PD.gMod, PD.gDivZ, PD.gModZ, PD.gLt, PD.gLe, PD.gGt, PD.gGe, PD.gPow, PD.gShr, PD.gXor, pSlice, pSliceFz, poNone, poSome, qPar3, gLeT, gTupC, pTupN, qSetIx, ownAt, setOwn, pSort, pDictIx, dVal, qSetOpn, qOpn, qPut, gIs, gIsNot, isN, pMt, gAppend, gPop, pChain3, piZip, piEnum, pSortI, pCat, pRep, pLstRg1, pLstRg2, pTupRg1, pInN, gIn, at_h0, at_h1, at_h2, at_h3, at_h4, at_h5, at_h6, at_h7, eqv_ii, eqv_ss, eqv_bb, eqv_is, eqv_si, eqv_nn, eqv_ni, eqv_in, eqv_bi, eqv_ib, hnx, g, at_h0]
        exact main
      · have g : ¬ ((n : Int) + 1 < l.length) := by omega
        unfold nxt at main
        rw [dif_neg h2] at main
        simp [qSeq, qIf, qRet, qSet, qAsg, qPar, qDrop, qNx, qRaise, qBk, qCt, qRetN, qAug, pER, pRE, pC, pName, pBin, pTest, pTru, strFit, truD, pAnd, pOr, pNot, pAndV, pOrV, pNotV, pIf, pChain, pNeg, pNil, pCons, pTup, pLst, pIxN, pCB, pCall, pcNil, pcCons, pcSrc, pcFz, pcExc, gtName, gtNil, gtCons, gtTup, gtTupX, gAdd, gMul, gI, gI0, gOrd, gIx, gLen, gInt, gI1, gI2, gGcd, slOf, enOf, begin_, seqAt, atMostOne, Sl.mut, pIsi, isD, isT, tyD, pLenN, pLst1, pLstRev, and_assoc, frzL, blkS, wipeS, toB, ptYes, qSetSrc, gEq, gNe, eqD, flatD, mixD, piSeq, piLst, piRng1, piRng2, piRng3, piFz, PD.gSub, PD.gDiv, PD.gMod, PD.gDivZ, PD.gModZ, PD.gLt, PD.gLe, PD.gGt, PD.gGe, PD.gPow, PD.gShr, PD.gXor, pSlice, pSliceFz, poNone, poSome, qPar3, gLeT, gTupC, pTupN, qSetIx, ownAt, setOwn, pSort, pDictIx, dVal, qSetOpn, qOpn, qPut, gIs, gIsNot, isN, pMt, gAppend, gPop, pChain3, piZip, piEnum, pSortI, pCat, pRep, pLstRg1, pLstRg2, pTupRg1, pInN, gIn, at_h0, at_h1, at_h2, at_h3, at_h4, at_h5, at_h6, at_h7, eqv_ii, eqv_ss, eqv_bb, eqv_is, eqv_si, eqv_nn, eqv_ni, eqv_in, eqv_bi, eqv_ib, g]
        exact main
  · rintro ρ ⟨s_turn, s_rates, s_whole, s_principal, s_days, s_low, s_spans, s_first, s_behind, s_at, s_end, s_cut, s_last, rfl⟩
    exact fin s_turn s_rates s_whole s_principal s_days s_low s_spans s_first s_behind s_at s_end s_cut s_last
end K48

set_option Elab.async false
set_option linter.all false
set_option maxRecDepth 100000
set_option maxHeartbeats 1000000
/-! The end of law_k48. -/
namespace K48
open PySem PySem.Spec PyProof.Rows L2 GxR HGx PD LamX
section
variable {P : Program} {w : World} {K : PySem.W.Frag} {mg : Str → Option Value} {base : Heap} {tb : Addr → Prop}
theorem len_is_number {e : Ec} : ∀ as Qr Qe, sp_is_number e as Qr Qe → as.length = 3 := by
  intro as Qr Qe h
  first | (obtain ⟨rfl, _⟩ := h; rfl) | (obtain ⟨_, rfl, _⟩ := h; rfl) | (obtain ⟨_, _, rfl, _⟩ := h; rfl) | (obtain ⟨_, _, _, rfl, _⟩ := h; rfl) | (obtain ⟨_, _, _, _, rfl, _⟩ := h; rfl) | (obtain ⟨_, _, _, _, _, rfl, _⟩ := h; rfl) | (obtain ⟨_, _, _, _, _, _, rfl, _⟩ := h; rfl) | (obtain ⟨_, _, _, _, _, _, _, rfl, _⟩ := h; rfl) | (obtain ⟨_, _, _, _, _, _, _, _, rfl, _⟩ := h; rfl) | (obtain ⟨_, _, _, _, _, _, _, _, _, rfl, _⟩ := h; rfl) | (obtain ⟨_, _, _, _, _, _, _, _, _, _, rfl, _⟩ := h; rfl) | (obtain ⟨_, _, _, _, _, _, _, _, _, _, _, rfl, _⟩ := h; rfl)
theorem len_is_day {e : Ec} : ∀ as Qr Qe, sp_is_day e as Qr Qe → as.length = 1 := by
  intro as Qr Qe h
  first | (obtain ⟨rfl, _⟩ := h; rfl) | (obtain ⟨_, rfl, _⟩ := h; rfl) | (obtain ⟨_, _, rfl, _⟩ := h; rfl) | (obtain ⟨_, _, _, rfl, _⟩ := h; rfl) | (obtain ⟨_, _, _, _, rfl, _⟩ := h; rfl) | (obtain ⟨_, _, _, _, _, rfl, _⟩ := h; rfl) | (obtain ⟨_, _, _, _, _, _, rfl, _⟩ := h; rfl) | (obtain ⟨_, _, _, _, _, _, _, rfl, _⟩ := h; rfl) | (obtain ⟨_, _, _, _, _, _, _, _, rfl, _⟩ := h; rfl) | (obtain ⟨_, _, _, _, _, _, _, _, _, rfl, _⟩ := h; rfl) | (obtain ⟨_, _, _, _, _, _, _, _, _, _, rfl, _⟩ := h; rfl) | (obtain ⟨_, _, _, _, _, _, _, _, _, _, _, rfl, _⟩ := h; rfl)
theorem len_is_fraction {e : Ec} : ∀ as Qr Qe, sp_is_fraction e as Qr Qe → as.length = 1 := by
  intro as Qr Qe h
  first | (obtain ⟨rfl, _⟩ := h; rfl) | (obtain ⟨_, rfl, _⟩ := h; rfl) | (obtain ⟨_, _, rfl, _⟩ := h; rfl) | (obtain ⟨_, _, _, rfl, _⟩ := h; rfl) | (obtain ⟨_, _, _, _, rfl, _⟩ := h; rfl) | (obtain ⟨_, _, _, _, _, rfl, _⟩ := h; rfl) | (obtain ⟨_, _, _, _, _, _, rfl, _⟩ := h; rfl) | (obtain ⟨_, _, _, _, _, _, _, rfl, _⟩ := h; rfl) | (obtain ⟨_, _, _, _, _, _, _, _, rfl, _⟩ := h; rfl) | (obtain ⟨_, _, _, _, _, _, _, _, _, rfl, _⟩ := h; rfl) | (obtain ⟨_, _, _, _, _, _, _, _, _, _, rfl, _⟩ := h; rfl) | (obtain ⟨_, _, _, _, _, _, _, _, _, _, _, rfl, _⟩ := h; rfl)
theorem len_lowest {e : Ec} : ∀ as Qr Qe, sp_lowest e as Qr Qe → as.length = 2 := by
  intro as Qr Qe h
  first | (obtain ⟨rfl, _⟩ := h; rfl) | (obtain ⟨_, rfl, _⟩ := h; rfl) | (obtain ⟨_, _, rfl, _⟩ := h; rfl) | (obtain ⟨_, _, _, rfl, _⟩ := h; rfl) | (obtain ⟨_, _, _, _, rfl, _⟩ := h; rfl) | (obtain ⟨_, _, _, _, _, rfl, _⟩ := h; rfl) | (obtain ⟨_, _, _, _, _, _, rfl, _⟩ := h; rfl) | (obtain ⟨_, _, _, _, _, _, _, rfl, _⟩ := h; rfl) | (obtain ⟨_, _, _, _, _, _, _, _, rfl, _⟩ := h; rfl) | (obtain ⟨_, _, _, _, _, _, _, _, _, rfl, _⟩ := h; rfl) | (obtain ⟨_, _, _, _, _, _, _, _, _, _, rfl, _⟩ := h; rfl) | (obtain ⟨_, _, _, _, _, _, _, _, _, _, _, rfl, _⟩ := h; rfl)
theorem len_plus {e : Ec} : ∀ as Qr Qe, sp_plus e as Qr Qe → as.length = 2 := by
  intro as Qr Qe h
  first | (obtain ⟨rfl, _⟩ := h; rfl) | (obtain ⟨_, rfl, _⟩ := h; rfl) | (obtain ⟨_, _, rfl, _⟩ := h; rfl) | (obtain ⟨_, _, _, rfl, _⟩ := h; rfl) | (obtain ⟨_, _, _, _, rfl, _⟩ := h; rfl) | (obtain ⟨_, _, _, _, _, rfl, _⟩ := h; rfl) | (obtain ⟨_, _, _, _, _, _, rfl, _⟩ := h; rfl) | (obtain ⟨_, _, _, _, _, _, _, rfl, _⟩ := h; rfl) | (obtain ⟨_, _, _, _, _, _, _, _, rfl, _⟩ := h; rfl) | (obtain ⟨_, _, _, _, _, _, _, _, _, rfl, _⟩ := h; rfl) | (obtain ⟨_, _, _, _, _, _, _, _, _, _, rfl, _⟩ := h; rfl) | (obtain ⟨_, _, _, _, _, _, _, _, _, _, _, rfl, _⟩ := h; rfl)
theorem len_times {e : Ec} : ∀ as Qr Qe, sp_times e as Qr Qe → as.length = 2 := by
  intro as Qr Qe h
  first | (obtain ⟨rfl, _⟩ := h; rfl) | (obtain ⟨_, rfl, _⟩ := h; rfl) | (obtain ⟨_, _, rfl, _⟩ := h; rfl) | (obtain ⟨_, _, _, rfl, _⟩ := h; rfl) | (obtain ⟨_, _, _, _, rfl, _⟩ := h; rfl) | (obtain ⟨_, _, _, _, _, rfl, _⟩ := h; rfl) | (obtain ⟨_, _, _, _, _, _, rfl, _⟩ := h; rfl) | (obtain ⟨_, _, _, _, _, _, _, rfl, _⟩ := h; rfl) | (obtain ⟨_, _, _, _, _, _, _, _, rfl, _⟩ := h; rfl) | (obtain ⟨_, _, _, _, _, _, _, _, _, rfl, _⟩ := h; rfl) | (obtain ⟨_, _, _, _, _, _, _, _, _, _, rfl, _⟩ := h; rfl) | (obtain ⟨_, _, _, _, _, _, _, _, _, _, _, rfl, _⟩ := h; rfl)
theorem len_is_rate {e : Ec} : ∀ as Qr Qe, sp_is_rate e as Qr Qe → as.length = 1 := by
  intro as Qr Qe h
  first | (obtain ⟨rfl, _⟩ := h; rfl) | (obtain ⟨_, rfl, _⟩ := h; rfl) | (obtain ⟨_, _, rfl, _⟩ := h; rfl) | (obtain ⟨_, _, _, rfl, _⟩ := h; rfl) | (obtain ⟨_, _, _, _, rfl, _⟩ := h; rfl) | (obtain ⟨_, _, _, _, _, rfl, _⟩ := h; rfl) | (obtain ⟨_, _, _, _, _, _, rfl, _⟩ := h; rfl) | (obtain ⟨_, _, _, _, _, _, _, rfl, _⟩ := h; rfl) | (obtain ⟨_, _, _, _, _, _, _, _, rfl, _⟩ := h; rfl) | (obtain ⟨_, _, _, _, _, _, _, _, _, rfl, _⟩ := h; rfl) | (obtain ⟨_, _, _, _, _, _, _, _, _, _, rfl, _⟩ := h; rfl) | (obtain ⟨_, _, _, _, _, _, _, _, _, _, _, rfl, _⟩ := h; rfl)
theorem len_is_rates {e : Ec} : ∀ as Qr Qe, sp_is_rates e as Qr Qe → as.length = 1 := by
  intro as Qr Qe h
  first | (obtain ⟨rfl, _⟩ := h; rfl) | (obtain ⟨_, rfl, _⟩ := h; rfl) | (obtain ⟨_, _, rfl, _⟩ := h; rfl) | (obtain ⟨_, _, _, rfl, _⟩ := h; rfl) | (obtain ⟨_, _, _, _, rfl, _⟩ := h; rfl) | (obtain ⟨_, _, _, _, _, rfl, _⟩ := h; rfl) | (obtain ⟨_, _, _, _, _, _, rfl, _⟩ := h; rfl) | (obtain ⟨_, _, _, _, _, _, _, rfl, _⟩ := h; rfl) | (obtain ⟨_, _, _, _, _, _, _, _, rfl, _⟩ := h; rfl) | (obtain ⟨_, _, _, _, _, _, _, _, _, rfl, _⟩ := h; rfl) | (obtain ⟨_, _, _, _, _, _, _, _, _, _, rfl, _⟩ := h; rfl) | (obtain ⟨_, _, _, _, _, _, _, _, _, _, _, rfl, _⟩ := h; rfl)
theorem len_interest {e : Ec} : ∀ as Qr Qe, sp_interest e as Qr Qe → as.length = 4 := by
  intro as Qr Qe h
  first | (obtain ⟨rfl, _⟩ := h; rfl) | (obtain ⟨_, rfl, _⟩ := h; rfl) | (obtain ⟨_, _, rfl, _⟩ := h; rfl) | (obtain ⟨_, _, _, rfl, _⟩ := h; rfl) | (obtain ⟨_, _, _, _, rfl, _⟩ := h; rfl) | (obtain ⟨_, _, _, _, _, rfl, _⟩ := h; rfl) | (obtain ⟨_, _, _, _, _, _, rfl, _⟩ := h; rfl) | (obtain ⟨_, _, _, _, _, _, _, rfl, _⟩ := h; rfl) | (obtain ⟨_, _, _, _, _, _, _, _, rfl, _⟩ := h; rfl) | (obtain ⟨_, _, _, _, _, _, _, _, _, rfl, _⟩ := h; rfl) | (obtain ⟨_, _, _, _, _, _, _, _, _, _, rfl, _⟩ := h; rfl) | (obtain ⟨_, _, _, _, _, _, _, _, _, _, _, rfl, _⟩ := h; rfl)
theorem len__law_open {e : Ec} : ∀ as Qr Qe, sp__law_open e as Qr Qe → as.length = 1 := by
  intro as Qr Qe h
  first | (obtain ⟨rfl, _⟩ := h; rfl) | (obtain ⟨_, rfl, _⟩ := h; rfl) | (obtain ⟨_, _, rfl, _⟩ := h; rfl) | (obtain ⟨_, _, _, rfl, _⟩ := h; rfl) | (obtain ⟨_, _, _, _, rfl, _⟩ := h; rfl) | (obtain ⟨_, _, _, _, _, rfl, _⟩ := h; rfl) | (obtain ⟨_, _, _, _, _, _, rfl, _⟩ := h; rfl) | (obtain ⟨_, _, _, _, _, _, _, rfl, _⟩ := h; rfl) | (obtain ⟨_, _, _, _, _, _, _, _, rfl, _⟩ := h; rfl) | (obtain ⟨_, _, _, _, _, _, _, _, _, rfl, _⟩ := h; rfl) | (obtain ⟨_, _, _, _, _, _, _, _, _, _, rfl, _⟩ := h; rfl) | (obtain ⟨_, _, _, _, _, _, _, _, _, _, _, rfl, _⟩ := h; rfl)
theorem len__law_mixed {e : Ec} : ∀ as Qr Qe, sp__law_mixed e as Qr Qe → as.length = 2 := by
  intro as Qr Qe h
  first | (obtain ⟨rfl, _⟩ := h; rfl) | (obtain ⟨_, rfl, _⟩ := h; rfl) | (obtain ⟨_, _, rfl, _⟩ := h; rfl) | (obtain ⟨_, _, _, rfl, _⟩ := h; rfl) | (obtain ⟨_, _, _, _, rfl, _⟩ := h; rfl) | (obtain ⟨_, _, _, _, _, rfl, _⟩ := h; rfl) | (obtain ⟨_, _, _, _, _, _, rfl, _⟩ := h; rfl) | (obtain ⟨_, _, _, _, _, _, _, rfl, _⟩ := h; rfl) | (obtain ⟨_, _, _, _, _, _, _, _, rfl, _⟩ := h; rfl) | (obtain ⟨_, _, _, _, _, _, _, _, _, rfl, _⟩ := h; rfl) | (obtain ⟨_, _, _, _, _, _, _, _, _, _, rfl, _⟩ := h; rfl) | (obtain ⟨_, _, _, _, _, _, _, _, _, _, _, rfl, _⟩ := h; rfl)
theorem len__law_draw {e : Ec} : ∀ as Qr Qe, sp__law_draw e as Qr Qe → as.length = 2 := by
  intro as Qr Qe h
  first | (obtain ⟨rfl, _⟩ := h; rfl) | (obtain ⟨_, rfl, _⟩ := h; rfl) | (obtain ⟨_, _, rfl, _⟩ := h; rfl) | (obtain ⟨_, _, _, rfl, _⟩ := h; rfl) | (obtain ⟨_, _, _, _, rfl, _⟩ := h; rfl) | (obtain ⟨_, _, _, _, _, rfl, _⟩ := h; rfl) | (obtain ⟨_, _, _, _, _, _, rfl, _⟩ := h; rfl) | (obtain ⟨_, _, _, _, _, _, _, rfl, _⟩ := h; rfl) | (obtain ⟨_, _, _, _, _, _, _, _, rfl, _⟩ := h; rfl) | (obtain ⟨_, _, _, _, _, _, _, _, _, rfl, _⟩ := h; rfl) | (obtain ⟨_, _, _, _, _, _, _, _, _, _, rfl, _⟩ := h; rfl) | (obtain ⟨_, _, _, _, _, _, _, _, _, _, _, rfl, _⟩ := h; rfl)
theorem len__law_wide {e : Ec} : ∀ as Qr Qe, sp__law_wide e as Qr Qe → as.length = 2 := by
  intro as Qr Qe h
  first | (obtain ⟨rfl, _⟩ := h; rfl) | (obtain ⟨_, rfl, _⟩ := h; rfl) | (obtain ⟨_, _, rfl, _⟩ := h; rfl) | (obtain ⟨_, _, _, rfl, _⟩ := h; rfl) | (obtain ⟨_, _, _, _, rfl, _⟩ := h; rfl) | (obtain ⟨_, _, _, _, _, rfl, _⟩ := h; rfl) | (obtain ⟨_, _, _, _, _, _, rfl, _⟩ := h; rfl) | (obtain ⟨_, _, _, _, _, _, _, rfl, _⟩ := h; rfl) | (obtain ⟨_, _, _, _, _, _, _, _, rfl, _⟩ := h; rfl) | (obtain ⟨_, _, _, _, _, _, _, _, _, rfl, _⟩ := h; rfl) | (obtain ⟨_, _, _, _, _, _, _, _, _, _, rfl, _⟩ := h; rfl) | (obtain ⟨_, _, _, _, _, _, _, _, _, _, _, rfl, _⟩ := h; rfl)
theorem lenX__law_told {e : Ec} : ∀ a c as Qr Qe, spX__law_told e a c as Qr Qe → as.length = 1 := by
  intro a c as Qr Qe h
  first | (obtain ⟨rfl, _⟩ := h; rfl) | (obtain ⟨_, rfl, _⟩ := h; rfl) | (obtain ⟨_, _, rfl, _⟩ := h; rfl) | (obtain ⟨_, _, _, rfl, _⟩ := h; rfl) | (obtain ⟨_, _, _, _, rfl, _⟩ := h; rfl) | (obtain ⟨_, _, _, _, _, rfl, _⟩ := h; rfl) | (obtain ⟨_, _, _, _, _, _, rfl, _⟩ := h; rfl) | (obtain ⟨_, _, _, _, _, _, _, rfl, _⟩ := h; rfl) | (obtain ⟨_, _, _, _, _, _, _, _, rfl, _⟩ := h; rfl) | (obtain ⟨_, _, _, _, _, _, _, _, _, rfl, _⟩ := h; rfl) | (obtain ⟨_, _, _, _, _, _, _, _, _, _, rfl, _⟩ := h; rfl) | (obtain ⟨_, _, _, _, _, _, _, _, _, _, _, rfl, _⟩ := h; rfl)
theorem len__law_lowest {e : Ec} : ∀ as Qr Qe, sp__law_lowest e as Qr Qe → as.length = 2 := by
  intro as Qr Qe h
  first | (obtain ⟨rfl, _⟩ := h; rfl) | (obtain ⟨_, rfl, _⟩ := h; rfl) | (obtain ⟨_, _, rfl, _⟩ := h; rfl) | (obtain ⟨_, _, _, rfl, _⟩ := h; rfl) | (obtain ⟨_, _, _, _, rfl, _⟩ := h; rfl) | (obtain ⟨_, _, _, _, _, rfl, _⟩ := h; rfl) | (obtain ⟨_, _, _, _, _, _, rfl, _⟩ := h; rfl) | (obtain ⟨_, _, _, _, _, _, _, rfl, _⟩ := h; rfl) | (obtain ⟨_, _, _, _, _, _, _, _, rfl, _⟩ := h; rfl) | (obtain ⟨_, _, _, _, _, _, _, _, _, rfl, _⟩ := h; rfl) | (obtain ⟨_, _, _, _, _, _, _, _, _, _, rfl, _⟩ := h; rfl) | (obtain ⟨_, _, _, _, _, _, _, _, _, _, _, rfl, _⟩ := h; rfl)
theorem len__law_rates {e : Ec} : ∀ as Qr Qe, sp__law_rates e as Qr Qe → as.length = 1 := by
  intro as Qr Qe h
  first | (obtain ⟨rfl, _⟩ := h; rfl) | (obtain ⟨_, rfl, _⟩ := h; rfl) | (obtain ⟨_, _, rfl, _⟩ := h; rfl) | (obtain ⟨_, _, _, rfl, _⟩ := h; rfl) | (obtain ⟨_, _, _, _, rfl, _⟩ := h; rfl) | (obtain ⟨_, _, _, _, _, rfl, _⟩ := h; rfl) | (obtain ⟨_, _, _, _, _, _, rfl, _⟩ := h; rfl) | (obtain ⟨_, _, _, _, _, _, _, rfl, _⟩ := h; rfl) | (obtain ⟨_, _, _, _, _, _, _, _, rfl, _⟩ := h; rfl) | (obtain ⟨_, _, _, _, _, _, _, _, _, rfl, _⟩ := h; rfl) | (obtain ⟨_, _, _, _, _, _, _, _, _, _, rfl, _⟩ := h; rfl) | (obtain ⟨_, _, _, _, _, _, _, _, _, _, _, rfl, _⟩ := h; rfl)
theorem len__law_rate {e : Ec} : ∀ as Qr Qe, sp__law_rate e as Qr Qe → as.length = 2 := by
  intro as Qr Qe h
  first | (obtain ⟨rfl, _⟩ := h; rfl) | (obtain ⟨_, rfl, _⟩ := h; rfl) | (obtain ⟨_, _, rfl, _⟩ := h; rfl) | (obtain ⟨_, _, _, rfl, _⟩ := h; rfl) | (obtain ⟨_, _, _, _, rfl, _⟩ := h; rfl) | (obtain ⟨_, _, _, _, _, rfl, _⟩ := h; rfl) | (obtain ⟨_, _, _, _, _, _, rfl, _⟩ := h; rfl) | (obtain ⟨_, _, _, _, _, _, _, rfl, _⟩ := h; rfl) | (obtain ⟨_, _, _, _, _, _, _, _, rfl, _⟩ := h; rfl) | (obtain ⟨_, _, _, _, _, _, _, _, _, rfl, _⟩ := h; rfl) | (obtain ⟨_, _, _, _, _, _, _, _, _, _, rfl, _⟩ := h; rfl) | (obtain ⟨_, _, _, _, _, _, _, _, _, _, _, rfl, _⟩ := h; rfl)
theorem len__law_up_to {e : Ec} : ∀ as Qr Qe, sp__law_up_to e as Qr Qe → as.length = 2 := by
  intro as Qr Qe h
  first | (obtain ⟨rfl, _⟩ := h; rfl) | (obtain ⟨_, rfl, _⟩ := h; rfl) | (obtain ⟨_, _, rfl, _⟩ := h; rfl) | (obtain ⟨_, _, _, rfl, _⟩ := h; rfl) | (obtain ⟨_, _, _, _, rfl, _⟩ := h; rfl) | (obtain ⟨_, _, _, _, _, rfl, _⟩ := h; rfl) | (obtain ⟨_, _, _, _, _, _, rfl, _⟩ := h; rfl) | (obtain ⟨_, _, _, _, _, _, _, rfl, _⟩ := h; rfl) | (obtain ⟨_, _, _, _, _, _, _, _, rfl, _⟩ := h; rfl) | (obtain ⟨_, _, _, _, _, _, _, _, _, rfl, _⟩ := h; rfl) | (obtain ⟨_, _, _, _, _, _, _, _, _, _, rfl, _⟩ := h; rfl) | (obtain ⟨_, _, _, _, _, _, _, _, _, _, _, rfl, _⟩ := h; rfl)
theorem len__law_short {e : Ec} : ∀ as Qr Qe, sp__law_short e as Qr Qe → as.length = 3 := by
  intro as Qr Qe h
  first | (obtain ⟨rfl, _⟩ := h; rfl) | (obtain ⟨_, rfl, _⟩ := h; rfl) | (obtain ⟨_, _, rfl, _⟩ := h; rfl) | (obtain ⟨_, _, _, rfl, _⟩ := h; rfl) | (obtain ⟨_, _, _, _, rfl, _⟩ := h; rfl) | (obtain ⟨_, _, _, _, _, rfl, _⟩ := h; rfl) | (obtain ⟨_, _, _, _, _, _, rfl, _⟩ := h; rfl) | (obtain ⟨_, _, _, _, _, _, _, rfl, _⟩ := h; rfl) | (obtain ⟨_, _, _, _, _, _, _, _, rfl, _⟩ := h; rfl) | (obtain ⟨_, _, _, _, _, _, _, _, _, rfl, _⟩ := h; rfl) | (obtain ⟨_, _, _, _, _, _, _, _, _, _, rfl, _⟩ := h; rfl) | (obtain ⟨_, _, _, _, _, _, _, _, _, _, _, rfl, _⟩ := h; rfl)
theorem len__law_due {e : Ec} : ∀ as Qr Qe, sp__law_due e as Qr Qe → as.length = 4 := by
  intro as Qr Qe h
  first | (obtain ⟨rfl, _⟩ := h; rfl) | (obtain ⟨_, rfl, _⟩ := h; rfl) | (obtain ⟨_, _, rfl, _⟩ := h; rfl) | (obtain ⟨_, _, _, rfl, _⟩ := h; rfl) | (obtain ⟨_, _, _, _, rfl, _⟩ := h; rfl) | (obtain ⟨_, _, _, _, _, rfl, _⟩ := h; rfl) | (obtain ⟨_, _, _, _, _, _, rfl, _⟩ := h; rfl) | (obtain ⟨_, _, _, _, _, _, _, rfl, _⟩ := h; rfl) | (obtain ⟨_, _, _, _, _, _, _, _, rfl, _⟩ := h; rfl) | (obtain ⟨_, _, _, _, _, _, _, _, _, rfl, _⟩ := h; rfl) | (obtain ⟨_, _, _, _, _, _, _, _, _, _, rfl, _⟩ := h; rfl) | (obtain ⟨_, _, _, _, _, _, _, _, _, _, _, rfl, _⟩ := h; rfl)
theorem len__law_is {e : Ec} : ∀ as Qr Qe, sp__law_is e as Qr Qe → as.length = 2 := by
  intro as Qr Qe h
  first | (obtain ⟨rfl, _⟩ := h; rfl) | (obtain ⟨_, rfl, _⟩ := h; rfl) | (obtain ⟨_, _, rfl, _⟩ := h; rfl) | (obtain ⟨_, _, _, rfl, _⟩ := h; rfl) | (obtain ⟨_, _, _, _, rfl, _⟩ := h; rfl) | (obtain ⟨_, _, _, _, _, rfl, _⟩ := h; rfl) | (obtain ⟨_, _, _, _, _, _, rfl, _⟩ := h; rfl) | (obtain ⟨_, _, _, _, _, _, _, rfl, _⟩ := h; rfl) | (obtain ⟨_, _, _, _, _, _, _, _, rfl, _⟩ := h; rfl) | (obtain ⟨_, _, _, _, _, _, _, _, _, rfl, _⟩ := h; rfl) | (obtain ⟨_, _, _, _, _, _, _, _, _, _, rfl, _⟩ := h; rfl) | (obtain ⟨_, _, _, _, _, _, _, _, _, _, _, rfl, _⟩ := h; rfl)
theorem len__law_asked {e : Ec} : ∀ as Qr Qe, sp__law_asked e as Qr Qe → as.length = 4 := by
  intro as Qr Qe h
  first | (obtain ⟨rfl, _⟩ := h; rfl) | (obtain ⟨_, rfl, _⟩ := h; rfl) | (obtain ⟨_, _, rfl, _⟩ := h; rfl) | (obtain ⟨_, _, _, rfl, _⟩ := h; rfl) | (obtain ⟨_, _, _, _, rfl, _⟩ := h; rfl) | (obtain ⟨_, _, _, _, _, rfl, _⟩ := h; rfl) | (obtain ⟨_, _, _, _, _, _, rfl, _⟩ := h; rfl) | (obtain ⟨_, _, _, _, _, _, _, rfl, _⟩ := h; rfl) | (obtain ⟨_, _, _, _, _, _, _, _, rfl, _⟩ := h; rfl) | (obtain ⟨_, _, _, _, _, _, _, _, _, rfl, _⟩ := h; rfl) | (obtain ⟨_, _, _, _, _, _, _, _, _, _, rfl, _⟩ := h; rfl) | (obtain ⟨_, _, _, _, _, _, _, _, _, _, _, rfl, _⟩ := h; rfl)
theorem len__law_wrong {e : Ec} : ∀ as Qr Qe, sp__law_wrong e as Qr Qe → as.length = 1 := by
  intro as Qr Qe h
  first | (obtain ⟨rfl, _⟩ := h; rfl) | (obtain ⟨_, rfl, _⟩ := h; rfl) | (obtain ⟨_, _, rfl, _⟩ := h; rfl) | (obtain ⟨_, _, _, rfl, _⟩ := h; rfl) | (obtain ⟨_, _, _, _, rfl, _⟩ := h; rfl) | (obtain ⟨_, _, _, _, _, rfl, _⟩ := h; rfl) | (obtain ⟨_, _, _, _, _, _, rfl, _⟩ := h; rfl) | (obtain ⟨_, _, _, _, _, _, _, rfl, _⟩ := h; rfl) | (obtain ⟨_, _, _, _, _, _, _, _, rfl, _⟩ := h; rfl) | (obtain ⟨_, _, _, _, _, _, _, _, _, rfl, _⟩ := h; rfl) | (obtain ⟨_, _, _, _, _, _, _, _, _, _, rfl, _⟩ := h; rfl) | (obtain ⟨_, _, _, _, _, _, _, _, _, _, _, rfl, _⟩ := h; rfl)
theorem len_law : ∀ as Qr Qe, pLaw as Qr Qe → as.length = 1 := by
  intro as Qr Qe h
  obtain ⟨_, rfl, _⟩ := h
  rfl
theorem tabOf {c P : Addr} (t : LamX.TabB base mg c P) : GxR.TabB base mg c P := ⟨t.code, t.bm, t.gP⟩
theorem tab_mk {x : Str} {f c P : Addr} {oc e : Value} {od dd : Option Addr} {fd : FuncData} {osl sl : Array (Option Value)} {vs : Array Value} (a : PySem.W.nsIn K mainGlobals x = some (some (.ref f))) (l : K.lookup f = some ⟨oc, od, .func fd, osl⟩) (hc : fd.code = .ref c) (lc : K.lookup c = some ⟨e, dd, .fields vs, sl⟩) (hv : vs[11]? = some (.ref P)) : PySem.W.tabIn K x = some (c, P) := by
  unfold PySem.W.tabIn
  simp only [a, l, hc, lc, hv]
theorem ok_law (g : G K mg base tb) (X : XF K g.e [.O, .M, .N, .R, .T]) : FnOk P w K mg base (L2N.CX P w) 7 g.a_law g.f_law ["script"] (spOf K (opn tb) pLaw) := by
  have o__law_open := w__law_open (P := P) (w := w) g len__law_open (pf__law_open X)
  have o__law_mixed := w__law_mixed (P := P) (w := w) g len__law_mixed (pf__law_mixed X)
  have o__law_draw := w__law_draw (P := P) (w := w) g o__law_mixed len__law_draw (pf__law_draw X)
  have o__law_lowest := w__law_lowest (P := P) (w := w) g len__law_lowest (pf__law_lowest X)
  have o__law_rates := w__law_rates (P := P) (w := w) g o__law_draw o__law_lowest len__law_rates (pf__law_rates X)
  have o_is_number := w_is_number (P := P) (w := w) g len_is_number (pf_is_number X)
  have o_is_day := w_is_day (P := P) (w := w) g o_is_number len_is_day (pf_is_day X)
  have o_is_fraction := w_is_fraction (P := P) (w := w) g len_is_fraction (pf_is_fraction X)
  have o_is_rate := w_is_rate (P := P) (w := w) g o_is_fraction len_is_rate (pf_is_rate X)
  have o_is_rates := w_is_rates (P := P) (w := w) g o_is_day o_is_rate len_is_rates (pf_is_rates X)
  have o__law_wrong := w__law_wrong (P := P) (w := w) g o_is_rates len__law_wrong (pf__law_wrong X)
  have o__law_wide := w__law_wide (P := P) (w := w) g o__law_draw len__law_wide (pf__law_wide X)
  have o_lowest := w_lowest (P := P) (w := w) g len_lowest (pf_lowest X)
  have o_times := w_times (P := P) (w := w) g o_lowest len_times (pf_times X)
  have o_plus := w_plus (P := P) (w := w) g o_lowest len_plus (pf_plus X)
  have o_interest := w_interest (P := P) (w := w) g o_times o_plus len_interest (pf_interest X)
  have o__law_toldX := wX__law_told (P := P) (w := w) g lenX__law_told (pfX__law_told X)
  have o__law_rate := w__law_rate (P := P) (w := w) g len__law_rate (pf__law_rate X)
  have o__law_short := w__law_short (P := P) (w := w) g o__law_rate o__law_lowest len__law_short (pf__law_short X)
  have o__law_up_to := w__law_up_to (P := P) (w := w) g len__law_up_to (pf__law_up_to X)
  have o__law_due := w__law_due (P := P) (w := w) g o__law_short o__law_up_to o__law_lowest len__law_due (pf__law_due X)
  have o__law_is := w__law_is (P := P) (w := w) g len__law_is (pf__law_is X)
  have o__law_asked := w__law_asked (P := P) (w := w) g o_interest o__law_toldX o__law_due o__law_is len__law_asked (pf__law_asked X)
  have o_law := w_law (P := P) (w := w) g o__law_open o__law_draw o__law_rates o_is_rates o__law_wrong o__law_wide o__law_lowest o__law_asked o_interest len_law (pf_law X)
  exact o_law
end
theorem all_mk {l : PySem.W.OpenLaw} {w : World} {q : Program} {K : PySem.W.Frag} {h : Heap} {mg : Str → Option Value} {fa : Addr} (X : K.In h) (G : h.Ns mainGlobals mg) (hfa : mg "law" = some (.ref fa)) (TT : Tabs q K h)
    {f_is_number : Addr} {od_is_number an_is_number : Option Addr} {sl_is_number : Array (Option Value)} {oc_is_number kV_is_number dc_is_number pm_is_number cc_is_number : Value} {cd_is_number : Value} {f_is_day : Addr} {od_is_day an_is_day : Option Addr} {sl_is_day : Array (Option Value)} {oc_is_day kV_is_day dc_is_day pm_is_day cc_is_day : Value} {cd_is_day : Value} {f_is_fraction : Addr} {od_is_fraction an_is_fraction : Option Addr} {sl_is_fraction : Array (Option Value)} {oc_is_fraction kV_is_fraction dc_is_fraction pm_is_fraction cc_is_fraction : Value} {cd_is_fraction : Value} {f_lowest : Addr} {od_lowest an_lowest : Option Addr} {sl_lowest : Array (Option Value)} {oc_lowest kV_lowest dc_lowest pm_lowest cc_lowest : Value} {cd_lowest : Value} {f_plus : Addr} {od_plus an_plus : Option Addr} {sl_plus : Array (Option Value)} {oc_plus kV_plus dc_plus pm_plus cc_plus : Value} {cd_plus : Value} {f_times : Addr} {od_times an_times : Option Addr} {sl_times : Array (Option Value)} {oc_times kV_times dc_times pm_times cc_times : Value} {cd_times : Value} {f_is_rate : Addr} {od_is_rate an_is_rate : Option Addr} {sl_is_rate : Array (Option Value)} {oc_is_rate kV_is_rate dc_is_rate pm_is_rate cc_is_rate : Value} {cd_is_rate : Value} {f_is_rates : Addr} {od_is_rates an_is_rates : Option Addr} {sl_is_rates : Array (Option Value)} {oc_is_rates kV_is_rates dc_is_rates pm_is_rates cc_is_rates : Value} {ct_is_rates tt_is_rates : Addr} {te_is_rates : Value} {td_is_rates : Option Addr} {tv_is_rates : Array Value} {ts_is_rates : Array (Option Value)} {dr_is_rates : DefRec} {f_interest : Addr} {od_interest an_interest : Option Addr} {sl_interest : Array (Option Value)} {oc_interest kV_interest dc_interest pm_interest cc_interest : Value} {cd_interest : Value} {f__law_open : Addr} {od__law_open an__law_open : Option Addr} {sl__law_open : Array (Option Value)} {oc__law_open kV__law_open dc__law_open pm__law_open cc__law_open : Value} {cd__law_open : Value} {f__law_mixed : Addr} {od__law_mixed an__law_mixed : Option Addr} {sl__law_mixed : Array (Option Value)} {oc__law_mixed kV__law_mixed dc__law_mixed pm__law_mixed cc__law_mixed : Value} {cd__law_mixed : Value} {f__law_draw : Addr} {od__law_draw an__law_draw : Option Addr} {sl__law_draw : Array (Option Value)} {oc__law_draw kV__law_draw dc__law_draw pm__law_draw cc__law_draw : Value} {cd__law_draw : Value} {f__law_wide : Addr} {od__law_wide an__law_wide : Option Addr} {sl__law_wide : Array (Option Value)} {oc__law_wide kV__law_wide dc__law_wide pm__law_wide cc__law_wide : Value} {cd__law_wide : Value} {f__law_told : Addr} {od__law_told an__law_told : Option Addr} {sl__law_told : Array (Option Value)} {oc__law_told kV__law_told dc__law_told pm__law_told cc__law_told : Value} {cd__law_told : Value} {f__law_lowest : Addr} {od__law_lowest an__law_lowest : Option Addr} {sl__law_lowest : Array (Option Value)} {oc__law_lowest kV__law_lowest dc__law_lowest pm__law_lowest cc__law_lowest : Value} {cd__law_lowest : Value} {f__law_rates : Addr} {od__law_rates an__law_rates : Option Addr} {sl__law_rates : Array (Option Value)} {oc__law_rates kV__law_rates dc__law_rates pm__law_rates cc__law_rates : Value} {cd__law_rates : Value} {f__law_rate : Addr} {od__law_rate an__law_rate : Option Addr} {sl__law_rate : Array (Option Value)} {oc__law_rate kV__law_rate dc__law_rate pm__law_rate cc__law_rate : Value} {cd__law_rate : Value} {f__law_up_to : Addr} {od__law_up_to an__law_up_to : Option Addr} {sl__law_up_to : Array (Option Value)} {oc__law_up_to kV__law_up_to dc__law_up_to pm__law_up_to cc__law_up_to : Value} {cd__law_up_to : Value} {f__law_short : Addr} {od__law_short an__law_short : Option Addr} {sl__law_short : Array (Option Value)} {oc__law_short kV__law_short dc__law_short pm__law_short cc__law_short : Value} {cd__law_short : Value} {f__law_due : Addr} {od__law_due an__law_due : Option Addr} {sl__law_due : Array (Option Value)} {oc__law_due kV__law_due dc__law_due pm__law_due cc__law_due : Value} {cd__law_due : Value} {f__law_is : Addr} {od__law_is an__law_is : Option Addr} {sl__law_is : Array (Option Value)} {oc__law_is kV__law_is dc__law_is pm__law_is cc__law_is : Value} {cd__law_is : Value} {f__law_asked : Addr} {od__law_asked an__law_asked : Option Addr} {sl__law_asked : Array (Option Value)} {oc__law_asked kV__law_asked dc__law_asked pm__law_asked cc__law_asked : Value} {cd__law_asked : Value} {f__law_wrong : Addr} {od__law_wrong an__law_wrong : Option Addr} {sl__law_wrong : Array (Option Value)} {oc__law_wrong kV__law_wrong dc__law_wrong pm__law_wrong cc__law_wrong : Value} {cd__law_wrong : Value} {f_law : Addr} {od_law an_law : Option Addr} {sl_law : Array (Option Value)} {oc_law kV_law dc_law pm_law cc_law : Value} {cd_law : Value} {tk_LAST_DAY : Tok} {tk_LIMIT : Tok} {tk_MOST_WHOLE : Tok} {tk_NOUGHT_0 : Tok} {tk_NOUGHT_1 : Tok} {u_NOUGHT : Addr} {ud_NOUGHT : Option Addr} {un_NOUGHT : Nat} {us_NOUGHT : Array (Option Value)} {tk_YEAR : Tok} {C_DocketError : Addr} {C_OutOfRange : Addr} {C_Malformed : Addr} {C_NotThere : Addr} {C_Refused : Addr} {C_TooMuch : Addr}
    (a_is_number : PySem.W.nsIn K mainGlobals "is_number" = some (some (.ref f_is_number)))
    (l_is_number : K.lookup f_is_number = some ⟨oc_is_number, od_is_number, .func (PySem.W.fnOf "is_number" "is_number" (defArgs s_is_number) (defBody s_is_number) (defScope s_is_number) .none kV_is_number dc_is_number pm_is_number an_is_number cd_is_number cc_is_number), sl_is_number⟩)
    (c_is_number : PySem.W.codeIn K cd_is_number "is_number" = true)
    (k_is_number : PySem.W.keepIn K (.ref f_is_number) = true)
    (a_is_day : PySem.W.nsIn K mainGlobals "is_day" = some (some (.ref f_is_day)))
    (l_is_day : K.lookup f_is_day = some ⟨oc_is_day, od_is_day, .func (PySem.W.fnOf "is_day" "is_day" (defArgs s_is_day) (defBody s_is_day) (defScope s_is_day) .none kV_is_day dc_is_day pm_is_day an_is_day cd_is_day cc_is_day), sl_is_day⟩)
    (c_is_day : PySem.W.codeIn K cd_is_day "is_day" = true)
    (k_is_day : PySem.W.keepIn K (.ref f_is_day) = true)
    (a_is_fraction : PySem.W.nsIn K mainGlobals "is_fraction" = some (some (.ref f_is_fraction)))
    (l_is_fraction : K.lookup f_is_fraction = some ⟨oc_is_fraction, od_is_fraction, .func (PySem.W.fnOf "is_fraction" "is_fraction" (defArgs s_is_fraction) (defBody s_is_fraction) (defScope s_is_fraction) .none kV_is_fraction dc_is_fraction pm_is_fraction an_is_fraction cd_is_fraction cc_is_fraction), sl_is_fraction⟩)
    (c_is_fraction : PySem.W.codeIn K cd_is_fraction "is_fraction" = true)
    (k_is_fraction : PySem.W.keepIn K (.ref f_is_fraction) = true)
    (a_lowest : PySem.W.nsIn K mainGlobals "lowest" = some (some (.ref f_lowest)))
    (l_lowest : K.lookup f_lowest = some ⟨oc_lowest, od_lowest, .func (PySem.W.fnOf "lowest" "lowest" (defArgs s_lowest) (defBody s_lowest) (defScope s_lowest) .none kV_lowest dc_lowest pm_lowest an_lowest cd_lowest cc_lowest), sl_lowest⟩)
    (c_lowest : PySem.W.codeIn K cd_lowest "lowest" = true)
    (k_lowest : PySem.W.keepIn K (.ref f_lowest) = true)
    (a_plus : PySem.W.nsIn K mainGlobals "plus" = some (some (.ref f_plus)))
    (l_plus : K.lookup f_plus = some ⟨oc_plus, od_plus, .func (PySem.W.fnOf "plus" "plus" (defArgs s_plus) (defBody s_plus) (defScope s_plus) .none kV_plus dc_plus pm_plus an_plus cd_plus cc_plus), sl_plus⟩)
    (c_plus : PySem.W.codeIn K cd_plus "plus" = true)
    (k_plus : PySem.W.keepIn K (.ref f_plus) = true)
    (a_times : PySem.W.nsIn K mainGlobals "times" = some (some (.ref f_times)))
    (l_times : K.lookup f_times = some ⟨oc_times, od_times, .func (PySem.W.fnOf "times" "times" (defArgs s_times) (defBody s_times) (defScope s_times) .none kV_times dc_times pm_times an_times cd_times cc_times), sl_times⟩)
    (c_times : PySem.W.codeIn K cd_times "times" = true)
    (k_times : PySem.W.keepIn K (.ref f_times) = true)
    (a_is_rate : PySem.W.nsIn K mainGlobals "is_rate" = some (some (.ref f_is_rate)))
    (l_is_rate : K.lookup f_is_rate = some ⟨oc_is_rate, od_is_rate, .func (PySem.W.fnOf "is_rate" "is_rate" (defArgs s_is_rate) (defBody s_is_rate) (defScope s_is_rate) .none kV_is_rate dc_is_rate pm_is_rate an_is_rate cd_is_rate cc_is_rate), sl_is_rate⟩)
    (c_is_rate : PySem.W.codeIn K cd_is_rate "is_rate" = true)
    (k_is_rate : PySem.W.keepIn K (.ref f_is_rate) = true)
    (a_is_rates : PySem.W.nsIn K mainGlobals "is_rates" = some (some (.ref f_is_rates)))
    (l_is_rates : K.lookup f_is_rates = some ⟨oc_is_rates, od_is_rates, .func (PySem.W.fnOf "is_rates" "is_rates" (defArgs s_is_rates) (defBody s_is_rates) (defScope s_is_rates) .none kV_is_rates dc_is_rates pm_is_rates an_is_rates (.ref ct_is_rates) cc_is_rates), sl_is_rates⟩)
    (c_is_rates : PySem.W.codeIn K (.ref ct_is_rates) "is_rates" = true)
    (k_is_rates : PySem.W.keepIn K (.ref f_is_rates) = true)
    (tl_is_rates : K.lookup ct_is_rates = some ⟨te_is_rates, td_is_rates, .fields tv_is_rates, ts_is_rates⟩)
    (tw_is_rates : tv_is_rates[11]? = some (.ref tt_is_rates))
    (tn_is_rates : K.lookup tt_is_rates = none)
    (tr_is_rates : (recsOf q).find? (fun e => e.name == ("is_rates" : Str)) = some dr_is_rates)
    (a_interest : PySem.W.nsIn K mainGlobals "interest" = some (some (.ref f_interest)))
    (l_interest : K.lookup f_interest = some ⟨oc_interest, od_interest, .func (PySem.W.fnOf "interest" "interest" (defArgs s_interest) (defBody s_interest) (defScope s_interest) .none kV_interest dc_interest pm_interest an_interest cd_interest cc_interest), sl_interest⟩)
    (c_interest : PySem.W.codeIn K cd_interest "interest" = true)
    (k_interest : PySem.W.keepIn K (.ref f_interest) = true)
    (a__law_open : PySem.W.nsIn K mainGlobals "_law_open" = some (some (.ref f__law_open)))
    (l__law_open : K.lookup f__law_open = some ⟨oc__law_open, od__law_open, .func (PySem.W.fnOf "_law_open" "_law_open" (defArgs s__law_open) (defBody s__law_open) (defScope s__law_open) .none kV__law_open dc__law_open pm__law_open an__law_open cd__law_open cc__law_open), sl__law_open⟩)
    (c__law_open : PySem.W.codeIn K cd__law_open "_law_open" = true)
    (k__law_open : PySem.W.keepIn K (.ref f__law_open) = true)
    (a__law_mixed : PySem.W.nsIn K mainGlobals "_law_mixed" = some (some (.ref f__law_mixed)))
    (l__law_mixed : K.lookup f__law_mixed = some ⟨oc__law_mixed, od__law_mixed, .func (PySem.W.fnOf "_law_mixed" "_law_mixed" (defArgs s__law_mixed) (defBody s__law_mixed) (defScope s__law_mixed) .none kV__law_mixed dc__law_mixed pm__law_mixed an__law_mixed cd__law_mixed cc__law_mixed), sl__law_mixed⟩)
    (c__law_mixed : PySem.W.codeIn K cd__law_mixed "_law_mixed" = true)
    (k__law_mixed : PySem.W.keepIn K (.ref f__law_mixed) = true)
    (a__law_draw : PySem.W.nsIn K mainGlobals "_law_draw" = some (some (.ref f__law_draw)))
    (l__law_draw : K.lookup f__law_draw = some ⟨oc__law_draw, od__law_draw, .func (PySem.W.fnOf "_law_draw" "_law_draw" (defArgs s__law_draw) (defBody s__law_draw) (defScope s__law_draw) .none kV__law_draw dc__law_draw pm__law_draw an__law_draw cd__law_draw cc__law_draw), sl__law_draw⟩)
    (c__law_draw : PySem.W.codeIn K cd__law_draw "_law_draw" = true)
    (k__law_draw : PySem.W.keepIn K (.ref f__law_draw) = true)
    (a__law_wide : PySem.W.nsIn K mainGlobals "_law_wide" = some (some (.ref f__law_wide)))
    (l__law_wide : K.lookup f__law_wide = some ⟨oc__law_wide, od__law_wide, .func (PySem.W.fnOf "_law_wide" "_law_wide" (defArgs s__law_wide) (defBody s__law_wide) (defScope s__law_wide) .none kV__law_wide dc__law_wide pm__law_wide an__law_wide cd__law_wide cc__law_wide), sl__law_wide⟩)
    (c__law_wide : PySem.W.codeIn K cd__law_wide "_law_wide" = true)
    (k__law_wide : PySem.W.keepIn K (.ref f__law_wide) = true)
    (a__law_told : PySem.W.nsIn K mainGlobals "_law_told" = some (some (.ref f__law_told)))
    (l__law_told : K.lookup f__law_told = some ⟨oc__law_told, od__law_told, .func (PySem.W.fnOf "_law_told" "_law_told" (defArgs s__law_told) (defBody s__law_told) (defScope s__law_told) .none kV__law_told dc__law_told pm__law_told an__law_told cd__law_told cc__law_told), sl__law_told⟩)
    (c__law_told : PySem.W.codeIn K cd__law_told "_law_told" = true)
    (k__law_told : PySem.W.keepIn K (.ref f__law_told) = true)
    (a__law_lowest : PySem.W.nsIn K mainGlobals "_law_lowest" = some (some (.ref f__law_lowest)))
    (l__law_lowest : K.lookup f__law_lowest = some ⟨oc__law_lowest, od__law_lowest, .func (PySem.W.fnOf "_law_lowest" "_law_lowest" (defArgs s__law_lowest) (defBody s__law_lowest) (defScope s__law_lowest) .none kV__law_lowest dc__law_lowest pm__law_lowest an__law_lowest cd__law_lowest cc__law_lowest), sl__law_lowest⟩)
    (c__law_lowest : PySem.W.codeIn K cd__law_lowest "_law_lowest" = true)
    (k__law_lowest : PySem.W.keepIn K (.ref f__law_lowest) = true)
    (a__law_rates : PySem.W.nsIn K mainGlobals "_law_rates" = some (some (.ref f__law_rates)))
    (l__law_rates : K.lookup f__law_rates = some ⟨oc__law_rates, od__law_rates, .func (PySem.W.fnOf "_law_rates" "_law_rates" (defArgs s__law_rates) (defBody s__law_rates) (defScope s__law_rates) .none kV__law_rates dc__law_rates pm__law_rates an__law_rates cd__law_rates cc__law_rates), sl__law_rates⟩)
    (c__law_rates : PySem.W.codeIn K cd__law_rates "_law_rates" = true)
    (k__law_rates : PySem.W.keepIn K (.ref f__law_rates) = true)
    (a__law_rate : PySem.W.nsIn K mainGlobals "_law_rate" = some (some (.ref f__law_rate)))
    (l__law_rate : K.lookup f__law_rate = some ⟨oc__law_rate, od__law_rate, .func (PySem.W.fnOf "_law_rate" "_law_rate" (defArgs s__law_rate) (defBody s__law_rate) (defScope s__law_rate) .none kV__law_rate dc__law_rate pm__law_rate an__law_rate cd__law_rate cc__law_rate), sl__law_rate⟩)
    (c__law_rate : PySem.W.codeIn K cd__law_rate "_law_rate" = true)
    (k__law_rate : PySem.W.keepIn K (.ref f__law_rate) = true)
    (a__law_up_to : PySem.W.nsIn K mainGlobals "_law_up_to" = some (some (.ref f__law_up_to)))
    (l__law_up_to : K.lookup f__law_up_to = some ⟨oc__law_up_to, od__law_up_to, .func (PySem.W.fnOf "_law_up_to" "_law_up_to" (defArgs s__law_up_to) (defBody s__law_up_to) (defScope s__law_up_to) .none kV__law_up_to dc__law_up_to pm__law_up_to an__law_up_to cd__law_up_to cc__law_up_to), sl__law_up_to⟩)
    (c__law_up_to : PySem.W.codeIn K cd__law_up_to "_law_up_to" = true)
    (k__law_up_to : PySem.W.keepIn K (.ref f__law_up_to) = true)
    (a__law_short : PySem.W.nsIn K mainGlobals "_law_short" = some (some (.ref f__law_short)))
    (l__law_short : K.lookup f__law_short = some ⟨oc__law_short, od__law_short, .func (PySem.W.fnOf "_law_short" "_law_short" (defArgs s__law_short) (defBody s__law_short) (defScope s__law_short) .none kV__law_short dc__law_short pm__law_short an__law_short cd__law_short cc__law_short), sl__law_short⟩)
    (c__law_short : PySem.W.codeIn K cd__law_short "_law_short" = true)
    (k__law_short : PySem.W.keepIn K (.ref f__law_short) = true)
    (a__law_due : PySem.W.nsIn K mainGlobals "_law_due" = some (some (.ref f__law_due)))
    (l__law_due : K.lookup f__law_due = some ⟨oc__law_due, od__law_due, .func (PySem.W.fnOf "_law_due" "_law_due" (defArgs s__law_due) (defBody s__law_due) (defScope s__law_due) .none kV__law_due dc__law_due pm__law_due an__law_due cd__law_due cc__law_due), sl__law_due⟩)
    (c__law_due : PySem.W.codeIn K cd__law_due "_law_due" = true)
    (k__law_due : PySem.W.keepIn K (.ref f__law_due) = true)
    (a__law_is : PySem.W.nsIn K mainGlobals "_law_is" = some (some (.ref f__law_is)))
    (l__law_is : K.lookup f__law_is = some ⟨oc__law_is, od__law_is, .func (PySem.W.fnOf "_law_is" "_law_is" (defArgs s__law_is) (defBody s__law_is) (defScope s__law_is) .none kV__law_is dc__law_is pm__law_is an__law_is cd__law_is cc__law_is), sl__law_is⟩)
    (c__law_is : PySem.W.codeIn K cd__law_is "_law_is" = true)
    (k__law_is : PySem.W.keepIn K (.ref f__law_is) = true)
    (a__law_asked : PySem.W.nsIn K mainGlobals "_law_asked" = some (some (.ref f__law_asked)))
    (l__law_asked : K.lookup f__law_asked = some ⟨oc__law_asked, od__law_asked, .func (PySem.W.fnOf "_law_asked" "_law_asked" (defArgs s__law_asked) (defBody s__law_asked) (defScope s__law_asked) .none kV__law_asked dc__law_asked pm__law_asked an__law_asked cd__law_asked cc__law_asked), sl__law_asked⟩)
    (c__law_asked : PySem.W.codeIn K cd__law_asked "_law_asked" = true)
    (k__law_asked : PySem.W.keepIn K (.ref f__law_asked) = true)
    (a__law_wrong : PySem.W.nsIn K mainGlobals "_law_wrong" = some (some (.ref f__law_wrong)))
    (l__law_wrong : K.lookup f__law_wrong = some ⟨oc__law_wrong, od__law_wrong, .func (PySem.W.fnOf "_law_wrong" "_law_wrong" (defArgs s__law_wrong) (defBody s__law_wrong) (defScope s__law_wrong) .none kV__law_wrong dc__law_wrong pm__law_wrong an__law_wrong cd__law_wrong cc__law_wrong), sl__law_wrong⟩)
    (c__law_wrong : PySem.W.codeIn K cd__law_wrong "_law_wrong" = true)
    (k__law_wrong : PySem.W.keepIn K (.ref f__law_wrong) = true)
    (a_law : PySem.W.nsIn K mainGlobals "law" = some (some (.ref f_law)))
    (l_law : K.lookup f_law = some ⟨oc_law, od_law, .func (PySem.W.fnOf "law" "law" (defArgs s_law) (defBody s_law) (defScope s_law) .none kV_law dc_law pm_law an_law cd_law cc_law), sl_law⟩)
    (c_law : PySem.W.codeIn K cd_law "law" = true)
    (k_law : PySem.W.keepIn K (.ref f_law) = true)
    (z_ValueError : PySem.W.nsIn K mainGlobals "ValueError" = some none)
    (z_abs : PySem.W.nsIn K mainGlobals "abs" = some none)
    (z_all : PySem.W.nsIn K mainGlobals "all" = some none)
    (z_bool : PySem.W.nsIn K mainGlobals "bool" = some none)
    (z_int : PySem.W.nsIn K mainGlobals "int" = some none)
    (z_isinstance : PySem.W.nsIn K mainGlobals "isinstance" = some none)
    (z_len : PySem.W.nsIn K mainGlobals "len" = some none)
    (z_list : PySem.W.nsIn K mainGlobals "list" = some none)
    (z_max : PySem.W.nsIn K mainGlobals "max" = some none)
    (z_min : PySem.W.nsIn K mainGlobals "min" = some none)
    (z_range : PySem.W.nsIn K mainGlobals "range" = some none)
    (z_sorted : PySem.W.nsIn K mainGlobals "sorted" = some none)
    (z_tuple : PySem.W.nsIn K mainGlobals "tuple" = some none)
    (n_gcd : PySem.W.nsIn K mainGlobals "gcd" = some (some (.builtin "math.gcd")))
    (m_LAST_DAY : PySem.W.nsIn K mainGlobals "LAST_DAY" = some (some (.int 1000000 tk_LAST_DAY)))
    (m_LIMIT : PySem.W.nsIn K mainGlobals "LIMIT" = some (some (.int 1000000000000000000000000000000000000000000000000000000000000 tk_LIMIT)))
    (m_MOST_WHOLE : PySem.W.nsIn K mainGlobals "MOST_WHOLE" = some (some (.int 10000 tk_MOST_WHOLE)))
    (m_NOUGHT : PySem.W.nsIn K mainGlobals "NOUGHT" = some (some (.ref u_NOUGHT)))
    (n_NOUGHT : K.lookup u_NOUGHT = some ⟨.type "tuple", ud_NOUGHT, .seq #[.int 0 tk_NOUGHT_0, .int 1 tk_NOUGHT_1] un_NOUGHT, us_NOUGHT⟩)
    (m_YEAR : PySem.W.nsIn K mainGlobals "YEAR" = some (some (.int 365 tk_YEAR)))
    (m_DocketError : PySem.W.nsIn K mainGlobals "DocketError" = some (some (.ref C_DocketError)))
    (b1_DocketError : PySem.W.subIn K (.ref C_DocketError) (.type "BaseException") = some true)
    (t1_DocketError : PySem.W.typeIn K (.ref C_DocketError) = some (.type "type"))
    (xi_DocketError : PySem.W.isClsIn K C_DocketError = true)
    (m_OutOfRange : PySem.W.nsIn K mainGlobals "OutOfRange" = some (some (.ref C_OutOfRange)))
    (b1_OutOfRange : PySem.W.subIn K (.ref C_OutOfRange) (.type "BaseException") = some true)
    (t1_OutOfRange : PySem.W.typeIn K (.ref C_OutOfRange) = some (.type "type"))
    (xi_OutOfRange : PySem.W.isClsIn K C_OutOfRange = true)
    (m_Malformed : PySem.W.nsIn K mainGlobals "Malformed" = some (some (.ref C_Malformed)))
    (b1_Malformed : PySem.W.subIn K (.ref C_Malformed) (.type "BaseException") = some true)
    (t1_Malformed : PySem.W.typeIn K (.ref C_Malformed) = some (.type "type"))
    (xi_Malformed : PySem.W.isClsIn K C_Malformed = true)
    (m_NotThere : PySem.W.nsIn K mainGlobals "NotThere" = some (some (.ref C_NotThere)))
    (b1_NotThere : PySem.W.subIn K (.ref C_NotThere) (.type "BaseException") = some true)
    (t1_NotThere : PySem.W.typeIn K (.ref C_NotThere) = some (.type "type"))
    (xi_NotThere : PySem.W.isClsIn K C_NotThere = true)
    (m_Refused : PySem.W.nsIn K mainGlobals "Refused" = some (some (.ref C_Refused)))
    (b1_Refused : PySem.W.subIn K (.ref C_Refused) (.type "BaseException") = some true)
    (t1_Refused : PySem.W.typeIn K (.ref C_Refused) = some (.type "type"))
    (xi_Refused : PySem.W.isClsIn K C_Refused = true)
    (m_TooMuch : PySem.W.nsIn K mainGlobals "TooMuch" = some (some (.ref C_TooMuch)))
    (b1_TooMuch : PySem.W.subIn K (.ref C_TooMuch) (.type "BaseException") = some true)
    (t1_TooMuch : PySem.W.typeIn K (.ref C_TooMuch) = some (.type "type"))
    (xi_TooMuch : PySem.W.isClsIn K C_TooMuch = true)
    (q_DocketError : PySem.W.excIn K C_DocketError [.type "ValueError", .type "Exception", .type "BaseException", .type "object"] "ValueError.__new__" = true)
    (k_DocketError : PySem.W.keepIn K (.ref C_DocketError) = true)
    (q_Malformed : PySem.W.excIn K C_Malformed [.type "ValueError", .type "Exception", .type "BaseException", .type "object"] "ValueError.__new__" = true)
    (k_Malformed : PySem.W.keepIn K (.ref C_Malformed) = true)
    (q_NotThere : PySem.W.excIn K C_NotThere [.type "ValueError", .type "Exception", .type "BaseException", .type "object"] "ValueError.__new__" = true)
    (k_NotThere : PySem.W.keepIn K (.ref C_NotThere) = true)
    (q_OutOfRange : PySem.W.excIn K C_OutOfRange [.type "ValueError", .type "Exception", .type "BaseException", .type "object"] "ValueError.__new__" = true)
    (k_OutOfRange : PySem.W.keepIn K (.ref C_OutOfRange) = true)
    (q_Refused : PySem.W.excIn K C_Refused [.type "ValueError", .type "Exception", .type "BaseException", .type "object"] "ValueError.__new__" = true)
    (k_Refused : PySem.W.keepIn K (.ref C_Refused) = true)
    (q_TooMuch : PySem.W.excIn K C_TooMuch [.type "ValueError", .type "Exception", .type "BaseException", .type "object"] "ValueError.__new__" = true)
    (k_TooMuch : PySem.W.keepIn K (.ref C_TooMuch) = true)
    (y6 : PySem.W.specialIn K (.builtin "object.__class__") "__get__" = some (some (.builtin "getset_descriptor.__get__")))
    (y7 : PySem.W.takesIn K (.builtin "object.__class__") = some true)
    (y1_OutOfRange : PySem.W.findIn K (.ref C_OutOfRange) "__getattribute__" = some (some (.builtin "BaseException.__getattribute__")))
    (y2_OutOfRange : PySem.W.findIn K (.ref C_OutOfRange) "__getattr__" = some none)
    (y4_OutOfRange : PySem.W.hasDictIn K C_OutOfRange = true)
    (y5_OutOfRange : PySem.W.findIn K (.ref C_OutOfRange) "__class__" = some (some (.builtin "object.__class__")))
    (y8_OutOfRange : PySem.W.mroIn K C_OutOfRange (.type "object") = some true)
    (y9_OutOfRange : PySem.W.subIn K (.ref C_OutOfRange) (.ref C_DocketError) = some true)
    (ya_OutOfRange : PySem.W.subIn K (.ref C_OutOfRange) (.type "ValueError") = some true)
    (yb_OutOfRange_OutOfRange : PySem.W.subIn K (.ref C_OutOfRange) (.ref C_OutOfRange) = some true)
    (yb_OutOfRange_Malformed : PySem.W.subIn K (.ref C_OutOfRange) (.ref C_Malformed) = some false)
    (yb_OutOfRange_NotThere : PySem.W.subIn K (.ref C_OutOfRange) (.ref C_NotThere) = some false)
    (yb_OutOfRange_Refused : PySem.W.subIn K (.ref C_OutOfRange) (.ref C_Refused) = some false)
    (yb_OutOfRange_TooMuch : PySem.W.subIn K (.ref C_OutOfRange) (.ref C_TooMuch) = some false)
    (y1_Malformed : PySem.W.findIn K (.ref C_Malformed) "__getattribute__" = some (some (.builtin "BaseException.__getattribute__")))
    (y2_Malformed : PySem.W.findIn K (.ref C_Malformed) "__getattr__" = some none)
    (y4_Malformed : PySem.W.hasDictIn K C_Malformed = true)
    (y5_Malformed : PySem.W.findIn K (.ref C_Malformed) "__class__" = some (some (.builtin "object.__class__")))
    (y8_Malformed : PySem.W.mroIn K C_Malformed (.type "object") = some true)
    (y9_Malformed : PySem.W.subIn K (.ref C_Malformed) (.ref C_DocketError) = some true)
    (ya_Malformed : PySem.W.subIn K (.ref C_Malformed) (.type "ValueError") = some true)
    (yb_Malformed_OutOfRange : PySem.W.subIn K (.ref C_Malformed) (.ref C_OutOfRange) = some false)
    (yb_Malformed_Malformed : PySem.W.subIn K (.ref C_Malformed) (.ref C_Malformed) = some true)
    (yb_Malformed_NotThere : PySem.W.subIn K (.ref C_Malformed) (.ref C_NotThere) = some false)
    (yb_Malformed_Refused : PySem.W.subIn K (.ref C_Malformed) (.ref C_Refused) = some false)
    (yb_Malformed_TooMuch : PySem.W.subIn K (.ref C_Malformed) (.ref C_TooMuch) = some false)
    (y1_NotThere : PySem.W.findIn K (.ref C_NotThere) "__getattribute__" = some (some (.builtin "BaseException.__getattribute__")))
    (y2_NotThere : PySem.W.findIn K (.ref C_NotThere) "__getattr__" = some none)
    (y4_NotThere : PySem.W.hasDictIn K C_NotThere = true)
    (y5_NotThere : PySem.W.findIn K (.ref C_NotThere) "__class__" = some (some (.builtin "object.__class__")))
    (y8_NotThere : PySem.W.mroIn K C_NotThere (.type "object") = some true)
    (y9_NotThere : PySem.W.subIn K (.ref C_NotThere) (.ref C_DocketError) = some true)
    (ya_NotThere : PySem.W.subIn K (.ref C_NotThere) (.type "ValueError") = some true)
    (yb_NotThere_OutOfRange : PySem.W.subIn K (.ref C_NotThere) (.ref C_OutOfRange) = some false)
    (yb_NotThere_Malformed : PySem.W.subIn K (.ref C_NotThere) (.ref C_Malformed) = some false)
    (yb_NotThere_NotThere : PySem.W.subIn K (.ref C_NotThere) (.ref C_NotThere) = some true)
    (yb_NotThere_Refused : PySem.W.subIn K (.ref C_NotThere) (.ref C_Refused) = some false)
    (yb_NotThere_TooMuch : PySem.W.subIn K (.ref C_NotThere) (.ref C_TooMuch) = some false)
    (y1_Refused : PySem.W.findIn K (.ref C_Refused) "__getattribute__" = some (some (.builtin "BaseException.__getattribute__")))
    (y2_Refused : PySem.W.findIn K (.ref C_Refused) "__getattr__" = some none)
    (y4_Refused : PySem.W.hasDictIn K C_Refused = true)
    (y5_Refused : PySem.W.findIn K (.ref C_Refused) "__class__" = some (some (.builtin "object.__class__")))
    (y8_Refused : PySem.W.mroIn K C_Refused (.type "object") = some true)
    (y9_Refused : PySem.W.subIn K (.ref C_Refused) (.ref C_DocketError) = some true)
    (ya_Refused : PySem.W.subIn K (.ref C_Refused) (.type "ValueError") = some true)
    (yb_Refused_OutOfRange : PySem.W.subIn K (.ref C_Refused) (.ref C_OutOfRange) = some false)
    (yb_Refused_Malformed : PySem.W.subIn K (.ref C_Refused) (.ref C_Malformed) = some false)
    (yb_Refused_NotThere : PySem.W.subIn K (.ref C_Refused) (.ref C_NotThere) = some false)
    (yb_Refused_Refused : PySem.W.subIn K (.ref C_Refused) (.ref C_Refused) = some true)
    (yb_Refused_TooMuch : PySem.W.subIn K (.ref C_Refused) (.ref C_TooMuch) = some false)
    (y1_TooMuch : PySem.W.findIn K (.ref C_TooMuch) "__getattribute__" = some (some (.builtin "BaseException.__getattribute__")))
    (y2_TooMuch : PySem.W.findIn K (.ref C_TooMuch) "__getattr__" = some none)
    (y4_TooMuch : PySem.W.hasDictIn K C_TooMuch = true)
    (y5_TooMuch : PySem.W.findIn K (.ref C_TooMuch) "__class__" = some (some (.builtin "object.__class__")))
    (y8_TooMuch : PySem.W.mroIn K C_TooMuch (.type "object") = some true)
    (y9_TooMuch : PySem.W.subIn K (.ref C_TooMuch) (.ref C_DocketError) = some true)
    (ya_TooMuch : PySem.W.subIn K (.ref C_TooMuch) (.type "ValueError") = some true)
    (yb_TooMuch_OutOfRange : PySem.W.subIn K (.ref C_TooMuch) (.ref C_OutOfRange) = some false)
    (yb_TooMuch_Malformed : PySem.W.subIn K (.ref C_TooMuch) (.ref C_Malformed) = some false)
    (yb_TooMuch_NotThere : PySem.W.subIn K (.ref C_TooMuch) (.ref C_NotThere) = some false)
    (yb_TooMuch_Refused : PySem.W.subIn K (.ref C_TooMuch) (.ref C_Refused) = some false)
    (yb_TooMuch_TooMuch : PySem.W.subIn K (.ref C_TooMuch) (.ref C_TooMuch) = some true) : LawAtS l w K (L2N.CX l.prog w) 7 63 "script" mg fa h := by
  have e : fa = f_law := by
    have e := hfa.symm.trans (PySem.W.mg_of X G a_law)
    cases e
    rfl
  have tt1_is_rates := TT "is_rates" ct_is_rates tt_is_rates dr_is_rates tr_is_rates (tab_mk a_is_rates l_is_rates rfl tl_is_rates tw_is_rates)
  have h1 : ∀ p ∈ ([(ct_is_rates, tt_is_rates)] : List (Addr × Addr)), h.get? p.2 = some { cls := .none, data := .fields #[] } := by
    intro p hp
    simp only [List.mem_cons, List.not_mem_nil, or_false] at hp
    rcases hp with rfl
    · exact tt1_is_rates.2
  have h2 : ∀ p ∈ ([(ct_is_rates, tt_is_rates)] : List (Addr × Addr)), K.lookup p.2 = none := by
    intro p hp
    simp only [List.mem_cons, List.not_mem_nil, or_false] at hp
    rcases hp with rfl
    · exact tn_is_rates
  have h3 : ∀ p ∈ ([(ct_is_rates, tt_is_rates)] : List (Addr × Addr)), PySem.W.CodeHd h p.1 p.2 := by
    intro p hp
    simp only [List.mem_cons, List.not_mem_nil, or_false] at hp
    rcases hp with rfl
    · exact tt1_is_rates.1
  refine ⟨PySem.W.fnOf "law" "law" (defArgs s_law) (defBody s_law) (defScope s_law) .none kV_law dc_law pm_law an_law cd_law cc_law, [(ct_is_rates, tt_is_rates)], spOf K (opn fun b => b ∈ ([(ct_is_rates, tt_is_rates)] : List (Addr × Addr)).map (·.2)) pLaw, h1, h2, h3, fun s u => .of_eq rfl, fun H a ns hl _ hT hS => law_sp rfl hl hT hS, fun base X2 G2 TB => ?_⟩
  rw [e]
  have xf : XF K { DocketError := C_DocketError, OutOfRange := C_OutOfRange, Malformed := C_Malformed, NotThere := C_NotThere, Refused := C_Refused, TooMuch := C_TooMuch } [.O, .M, .N, .R, .T] := {
    exm := by
      intro a ha
      simp only [List.mem_cons, List.not_mem_nil, or_false] at ha
      rcases ha with rfl | rfl | rfl | rfl | rfl
      · exact exm_mk b1_DocketError xi_DocketError t1_DocketError y9_OutOfRange
      · exact exm_mk b1_DocketError xi_DocketError t1_DocketError y9_Malformed
      · exact exm_mk b1_DocketError xi_DocketError t1_DocketError y9_NotThere
      · exact exm_mk b1_DocketError xi_DocketError t1_DocketError y9_Refused
      · exact exm_mk b1_DocketError xi_DocketError t1_DocketError y9_TooMuch
    kit := by
      intro a ha
      simp only [List.mem_cons, List.not_mem_nil, or_false] at ha
      rcases ha with rfl | rfl | rfl | rfl | rfl
      · intro b hb
        simp only [List.mem_cons, List.not_mem_nil, or_false] at hb
        rcases hb with rfl | rfl | rfl | rfl | rfl
        · exact kit_self
        · exact kit_no xi_Malformed t1_Malformed yb_OutOfRange_Malformed yb_Malformed_Malformed
        · exact kit_no xi_NotThere t1_NotThere yb_OutOfRange_NotThere yb_NotThere_NotThere
        · exact kit_no xi_Refused t1_Refused yb_OutOfRange_Refused yb_Refused_Refused
        · exact kit_no xi_TooMuch t1_TooMuch yb_OutOfRange_TooMuch yb_TooMuch_TooMuch
      · intro b hb
        simp only [List.mem_cons, List.not_mem_nil, or_false] at hb
        rcases hb with rfl | rfl | rfl | rfl | rfl
        · exact kit_no xi_OutOfRange t1_OutOfRange yb_Malformed_OutOfRange yb_OutOfRange_OutOfRange
        · exact kit_self
        · exact kit_no xi_NotThere t1_NotThere yb_Malformed_NotThere yb_NotThere_NotThere
        · exact kit_no xi_Refused t1_Refused yb_Malformed_Refused yb_Refused_Refused
        · exact kit_no xi_TooMuch t1_TooMuch yb_Malformed_TooMuch yb_TooMuch_TooMuch
      · intro b hb
        simp only [List.mem_cons, List.not_mem_nil, or_false] at hb
        rcases hb with rfl | rfl | rfl | rfl | rfl
        · exact kit_no xi_OutOfRange t1_OutOfRange yb_NotThere_OutOfRange yb_OutOfRange_OutOfRange
        · exact kit_no xi_Malformed t1_Malformed yb_NotThere_Malformed yb_Malformed_Malformed
        · exact kit_self
        · exact kit_no xi_Refused t1_Refused yb_NotThere_Refused yb_Refused_Refused
        · exact kit_no xi_TooMuch t1_TooMuch yb_NotThere_TooMuch yb_TooMuch_TooMuch
      · intro b hb
        simp only [List.mem_cons, List.not_mem_nil, or_false] at hb
        rcases hb with rfl | rfl | rfl | rfl | rfl
        · exact kit_no xi_OutOfRange t1_OutOfRange yb_Refused_OutOfRange yb_OutOfRange_OutOfRange
        · exact kit_no xi_Malformed t1_Malformed yb_Refused_Malformed yb_Malformed_Malformed
        · exact kit_no xi_NotThere t1_NotThere yb_Refused_NotThere yb_NotThere_NotThere
        · exact kit_self
        · exact kit_no xi_TooMuch t1_TooMuch yb_Refused_TooMuch yb_TooMuch_TooMuch
      · intro b hb
        simp only [List.mem_cons, List.not_mem_nil, or_false] at hb
        rcases hb with rfl | rfl | rfl | rfl | rfl
        · exact kit_no xi_OutOfRange t1_OutOfRange yb_TooMuch_OutOfRange yb_OutOfRange_OutOfRange
        · exact kit_no xi_Malformed t1_Malformed yb_TooMuch_Malformed yb_Malformed_Malformed
        · exact kit_no xi_NotThere t1_NotThere yb_TooMuch_NotThere yb_NotThere_NotThere
        · exact kit_no xi_Refused t1_Refused yb_TooMuch_Refused yb_Refused_Refused
        · exact kit_self
    kitV := by
      intro a ha
      simp only [List.mem_cons, List.not_mem_nil, or_false] at ha
      rcases ha with rfl | rfl | rfl | rfl | rfl
      · exact kit_V ya_OutOfRange
      · exact kit_V ya_Malformed
      · exact kit_V ya_NotThere
      · exact kit_V ya_Refused
      · exact kit_V ya_TooMuch
    exc := by
      intro a ha
      simp only [List.mem_cons, List.not_mem_nil, or_false] at ha
      rcases ha with rfl | rfl | rfl | rfl | rfl
      · exact ⟨y1_OutOfRange, y2_OutOfRange, b1_OutOfRange, y4_OutOfRange, y5_OutOfRange, y6, y7, y8_OutOfRange⟩
      · exact ⟨y1_Malformed, y2_Malformed, b1_Malformed, y4_Malformed, y5_Malformed, y6, y7, y8_Malformed⟩
      · exact ⟨y1_NotThere, y2_NotThere, b1_NotThere, y4_NotThere, y5_NotThere, y6, y7, y8_NotThere⟩
      · exact ⟨y1_Refused, y2_Refused, b1_Refused, y4_Refused, y5_Refused, y6, y7, y8_Refused⟩
      · exact ⟨y1_TooMuch, y2_TooMuch, b1_TooMuch, y4_TooMuch, y5_TooMuch, y6, y7, y8_TooMuch⟩ }
  exact ok_law (P := l.prog) (w := w) (K := K) (mg := mg) (base := base) (tb := fun b => b ∈ ([(ct_is_rates, tt_is_rates)] : List (Addr × Addr)).map (·.2)) { a_is_number := f_is_number, f_is_number := _, F_is_number := fun_mk (st := s_is_number) l_is_number c_is_number k_is_number, b_is_number := (fun_mk (st := s_is_number) l_is_number c_is_number k_is_number).binds (ps := ["value", "least", "most"]) fun _ _ _ _ _ _ us hl => match us, hl with | [_, _, _], _ => rfl, g_is_number := PySem.W.mg_of X G a_is_number, a_is_day := f_is_day, f_is_day := _, F_is_day := fun_mk (st := s_is_day) l_is_day c_is_day k_is_day, b_is_day := (fun_mk (st := s_is_day) l_is_day c_is_day k_is_day).binds (ps := ["value"]) fun _ _ _ _ _ _ us hl => match us, hl with | [_], _ => rfl, g_is_day := PySem.W.mg_of X G a_is_day, a_is_fraction := f_is_fraction, f_is_fraction := _, F_is_fraction := fun_mk (st := s_is_fraction) l_is_fraction c_is_fraction k_is_fraction, b_is_fraction := (fun_mk (st := s_is_fraction) l_is_fraction c_is_fraction k_is_fraction).binds (ps := ["value"]) fun _ _ _ _ _ _ us hl => match us, hl with | [_], _ => rfl, g_is_fraction := PySem.W.mg_of X G a_is_fraction, a_lowest := f_lowest, f_lowest := _, F_lowest := fun_mk (st := s_lowest) l_lowest c_lowest k_lowest, b_lowest := (fun_mk (st := s_lowest) l_lowest c_lowest k_lowest).binds (ps := ["part", "whole"]) fun _ _ _ _ _ _ us hl => match us, hl with | [_, _], _ => rfl, g_lowest := PySem.W.mg_of X G a_lowest, a_plus := f_plus, f_plus := _, F_plus := fun_mk (st := s_plus) l_plus c_plus k_plus, b_plus := (fun_mk (st := s_plus) l_plus c_plus k_plus).binds (ps := ["one", "other"]) fun _ _ _ _ _ _ us hl => match us, hl with | [_, _], _ => rfl, g_plus := PySem.W.mg_of X G a_plus, a_times := f_times, f_times := _, F_times := fun_mk (st := s_times) l_times c_times k_times, b_times := (fun_mk (st := s_times) l_times c_times k_times).binds (ps := ["one", "other"]) fun _ _ _ _ _ _ us hl => match us, hl with | [_, _], _ => rfl, g_times := PySem.W.mg_of X G a_times, a_is_rate := f_is_rate, f_is_rate := _, F_is_rate := fun_mk (st := s_is_rate) l_is_rate c_is_rate k_is_rate, b_is_rate := (fun_mk (st := s_is_rate) l_is_rate c_is_rate k_is_rate).binds (ps := ["value"]) fun _ _ _ _ _ _ us hl => match us, hl with | [_], _ => rfl, g_is_rate := PySem.W.mg_of X G a_is_rate, a_is_rates := f_is_rates, f_is_rates := _, F_is_rates := fun_mk (st := s_is_rates) l_is_rates c_is_rates k_is_rates, b_is_rates := (fun_mk (st := s_is_rates) l_is_rates c_is_rates k_is_rates).binds (ps := ["value"]) fun _ _ _ _ _ _ us hl => match us, hl with | [_], _ => rfl, g_is_rates := PySem.W.mg_of X G a_is_rates, ct_is_rates := ct_is_rates, tt_is_rates := tt_is_rates, e_is_rates := rfl, T_is_rates := tabOf (TB (ct_is_rates, tt_is_rates) (by simp)), t_is_rates := by simp, a_interest := f_interest, f_interest := _, F_interest := fun_mk (st := s_interest) l_interest c_interest k_interest, b_interest := (fun_mk (st := s_interest) l_interest c_interest k_interest).binds (ps := ["principal", "rates", "first", "behind"]) fun _ _ _ _ _ _ us hl => match us, hl with | [_, _, _, _], _ => rfl, g_interest := PySem.W.mg_of X G a_interest, a__law_open := f__law_open, f__law_open := _, F__law_open := fun_mk (st := s__law_open) l__law_open c__law_open k__law_open, b__law_open := (fun_mk (st := s__law_open) l__law_open c__law_open k__law_open).binds (ps := ["script"]) fun _ _ _ _ _ _ us hl => match us, hl with | [_], _ => rfl, g__law_open := PySem.W.mg_of X G a__law_open, a__law_mixed := f__law_mixed, f__law_mixed := _, F__law_mixed := fun_mk (st := s__law_mixed) l__law_mixed c__law_mixed k__law_mixed, b__law_mixed := (fun_mk (st := s__law_mixed) l__law_mixed c__law_mixed k__law_mixed).binds (ps := ["cell", "turn"]) fun _ _ _ _ _ _ us hl => match us, hl with | [_, _], _ => rfl, g__law_mixed := PySem.W.mg_of X G a__law_mixed, a__law_draw := f__law_draw, f__law_draw := _, F__law_draw := fun_mk (st := s__law_draw) l__law_draw c__law_draw k__law_draw, b__law_draw := (fun_mk (st := s__law_draw) l__law_draw c__law_draw k__law_draw).binds (ps := ["draws", "size"]) fun _ _ _ _ _ _ us hl => match us, hl with | [_, _], _ => rfl, g__law_draw := PySem.W.mg_of X G a__law_draw, a__law_wide := f__law_wide, f__law_wide := _, F__law_wide := fun_mk (st := s__law_wide) l__law_wide c__law_wide k__law_wide, b__law_wide := (fun_mk (st := s__law_wide) l__law_wide c__law_wide k__law_wide).binds (ps := ["draws", "size"]) fun _ _ _ _ _ _ us hl => match us, hl with | [_, _], _ => rfl, g__law_wide := PySem.W.mg_of X G a__law_wide, a__law_told := f__law_told, f__law_told := _, F__law_told := fun_mk (st := s__law_told) l__law_told c__law_told k__law_told, b__law_told := (fun_mk (st := s__law_told) l__law_told c__law_told k__law_told).binds (ps := ["error"]) fun _ _ _ _ _ _ us hl => match us, hl with | [_], _ => rfl, g__law_told := PySem.W.mg_of X G a__law_told, a__law_lowest := f__law_lowest, f__law_lowest := _, F__law_lowest := fun_mk (st := s__law_lowest) l__law_lowest c__law_lowest k__law_lowest, b__law_lowest := (fun_mk (st := s__law_lowest) l__law_lowest c__law_lowest k__law_lowest).binds (ps := ["part", "whole"]) fun _ _ _ _ _ _ us hl => match us, hl with | [_, _], _ => rfl, g__law_lowest := PySem.W.mg_of X G a__law_lowest, a__law_rates := f__law_rates, f__law_rates := _, F__law_rates := fun_mk (st := s__law_rates) l__law_rates c__law_rates k__law_rates, b__law_rates := (fun_mk (st := s__law_rates) l__law_rates c__law_rates k__law_rates).binds (ps := ["draws"]) fun _ _ _ _ _ _ us hl => match us, hl with | [_], _ => rfl, g__law_rates := PySem.W.mg_of X G a__law_rates, a__law_rate := f__law_rate, f__law_rate := _, F__law_rate := fun_mk (st := s__law_rate) l__law_rate c__law_rate k__law_rate, b__law_rate := (fun_mk (st := s__law_rate) l__law_rate c__law_rate k__law_rate).binds (ps := ["rates", "day"]) fun _ _ _ _ _ _ us hl => match us, hl with | [_, _], _ => rfl, g__law_rate := PySem.W.mg_of X G a__law_rate, a__law_up_to := f__law_up_to, f__law_up_to := _, F__law_up_to := fun_mk (st := s__law_up_to) l__law_up_to c__law_up_to k__law_up_to, b__law_up_to := (fun_mk (st := s__law_up_to) l__law_up_to c__law_up_to k__law_up_to).binds (ps := ["rates", "day"]) fun _ _ _ _ _ _ us hl => match us, hl with | [_, _], _ => rfl, g__law_up_to := PySem.W.mg_of X G a__law_up_to, a__law_short := f__law_short, f__law_short := _, F__law_short := fun_mk (st := s__law_short) l__law_short c__law_short k__law_short, b__law_short := (fun_mk (st := s__law_short) l__law_short c__law_short k__law_short).binds (ps := ["rates", "first", "behind"]) fun _ _ _ _ _ _ us hl => match us, hl with | [_, _, _], _ => rfl, g__law_short := PySem.W.mg_of X G a__law_short, a__law_due := f__law_due, f__law_due := _, F__law_due := fun_mk (st := s__law_due) l__law_due c__law_due k__law_due, b__law_due := (fun_mk (st := s__law_due) l__law_due c__law_due k__law_due).binds (ps := ["principal", "rates", "first", "behind"]) fun _ _ _ _ _ _ us hl => match us, hl with | [_, _, _, _], _ => rfl, g__law_due := PySem.W.mg_of X G a__law_due, a__law_is := f__law_is, f__law_is := _, F__law_is := fun_mk (st := s__law_is) l__law_is c__law_is k__law_is, b__law_is := (fun_mk (st := s__law_is) l__law_is c__law_is k__law_is).binds (ps := ["value", "due"]) fun _ _ _ _ _ _ us hl => match us, hl with | [_, _], _ => rfl, g__law_is := PySem.W.mg_of X G a__law_is, a__law_asked := f__law_asked, f__law_asked := _, F__law_asked := fun_mk (st := s__law_asked) l__law_asked c__law_asked k__law_asked, b__law_asked := (fun_mk (st := s__law_asked) l__law_asked c__law_asked k__law_asked).binds (ps := ["principal", "rates", "first", "behind"]) fun _ _ _ _ _ _ us hl => match us, hl with | [_, _, _, _], _ => rfl, g__law_asked := PySem.W.mg_of X G a__law_asked, a__law_wrong := f__law_wrong, f__law_wrong := _, F__law_wrong := fun_mk (st := s__law_wrong) l__law_wrong c__law_wrong k__law_wrong, b__law_wrong := (fun_mk (st := s__law_wrong) l__law_wrong c__law_wrong k__law_wrong).binds (ps := ["rates"]) fun _ _ _ _ _ _ us hl => match us, hl with | [_], _ => rfl, g__law_wrong := PySem.W.mg_of X G a__law_wrong, a_law := f_law, f_law := _, F_law := fun_mk (st := s_law) l_law c_law k_law, b_law := (fun_mk (st := s_law) l_law c_law k_law).binds (ps := ["script"]) fun _ _ _ _ _ _ us hl => match us, hl with | [_], _ => rfl, g_law := PySem.W.mg_of X G a_law, z_ValueError := PySem.W.mg_none_of X G z_ValueError, z_abs := PySem.W.mg_none_of X G z_abs, z_all := PySem.W.mg_none_of X G z_all, z_bool := PySem.W.mg_none_of X G z_bool, z_int := PySem.W.mg_none_of X G z_int, z_isinstance := PySem.W.mg_none_of X G z_isinstance, z_len := PySem.W.mg_none_of X G z_len, z_list := PySem.W.mg_none_of X G z_list, z_max := PySem.W.mg_none_of X G z_max, z_min := PySem.W.mg_none_of X G z_min, z_range := PySem.W.mg_none_of X G z_range, z_sorted := PySem.W.mg_none_of X G z_sorted, z_tuple := PySem.W.mg_none_of X G z_tuple, n_gcd := PySem.W.mg_of X G n_gcd, w_LAST_DAY := .int 1000000, u_LAST_DAY := .int 1000000 tk_LAST_DAY, m_LAST_DAY := PySem.W.mg_of X G m_LAST_DAY, r_LAST_DAY := ⟨_, rfl⟩, d_LAST_DAY := fun M => .int _, w_LIMIT := .int 1000000000000000000000000000000000000000000000000000000000000, u_LIMIT := .int 1000000000000000000000000000000000000000000000000000000000000 tk_LIMIT, m_LIMIT := PySem.W.mg_of X G m_LIMIT, r_LIMIT := ⟨_, rfl⟩, d_LIMIT := fun M => .int _, w_MOST_WHOLE := .int 10000, u_MOST_WHOLE := .int 10000 tk_MOST_WHOLE, m_MOST_WHOLE := PySem.W.mg_of X G m_MOST_WHOLE, r_MOST_WHOLE := ⟨_, rfl⟩, d_MOST_WHOLE := fun M => .int _, w_NOUGHT := .ref u_NOUGHT, u_NOUGHT := .ref u_NOUGHT, m_NOUGHT := PySem.W.mg_of X G m_NOUGHT, r_NOUGHT := rfl, d_NOUGHT := fun M => .tup (xs := [.int 0, .int 1]) (.inr ⟨_, _, _, n_NOUGHT, rfl, rfl, szn 2, (.cons ⟨_, rfl⟩ (.cons ⟨_, rfl⟩ .nil))⟩) (.cons (.int _) (.cons (.int _) .nil)), w_YEAR := .int 365, u_YEAR := .int 365 tk_YEAR, m_YEAR := PySem.W.mg_of X G m_YEAR, r_YEAR := ⟨_, rfl⟩, d_YEAR := fun M => .int _, m_DocketError := PySem.W.mg_of X G m_DocketError, q_DocketError := q_DocketError, k_DocketError := k_DocketError, b1_DocketError := b1_DocketError, t1_DocketError := t1_DocketError, m_Malformed := PySem.W.mg_of X G m_Malformed, q_Malformed := q_Malformed, k_Malformed := k_Malformed, b1_Malformed := b1_Malformed, t1_Malformed := t1_Malformed, m_NotThere := PySem.W.mg_of X G m_NotThere, q_NotThere := q_NotThere, k_NotThere := k_NotThere, b1_NotThere := b1_NotThere, t1_NotThere := t1_NotThere, m_OutOfRange := PySem.W.mg_of X G m_OutOfRange, q_OutOfRange := q_OutOfRange, k_OutOfRange := k_OutOfRange, b1_OutOfRange := b1_OutOfRange, t1_OutOfRange := t1_OutOfRange, m_Refused := PySem.W.mg_of X G m_Refused, q_Refused := q_Refused, k_Refused := k_Refused, b1_Refused := b1_Refused, t1_Refused := t1_Refused, m_TooMuch := PySem.W.mg_of X G m_TooMuch, q_TooMuch := q_TooMuch, k_TooMuch := k_TooMuch, b1_TooMuch := b1_TooMuch, t1_TooMuch := t1_TooMuch, e := { DocketError := C_DocketError, OutOfRange := C_OutOfRange, Malformed := C_Malformed, NotThere := C_NotThere, Refused := C_Refused, TooMuch := C_TooMuch } } xf
end K48
open PySem PySem.W PyProof.Rows
set_option maxHeartbeats 0 in
theorem PySem.Challenge.cw_docketloom_k48_exact_interest_holds : PySem.Challenge.rw_docketloom_k48_exact_interest.Holds := by
  w_on; o_law; k_head; (case hw => w_witness2)
  k_fill
  refine PD.walk_ofAll (l := PySem.Challenge.rw_docketloom_k48_exact_interest) (n := 63) (k := 7) (x := "script") (CX := fun w => L2N.CX PySem.Challenge.rw_docketloom_k48_exact_interest.prog w) rfl (by decide) rfl ⟨rfl, by decide, by decide⟩ (fun w h Y => PySem.W.kIn_of Y) ?F (fun w H s e s1 h => by obtain ⟨a, B, H1, cls, d, h1, h2, h3, h4, h5, h6, h7, h8⟩ := h; exact h8)
  case F =>
    intro w mg fa h Y KX G hmg TT
    refine' K48.all_mk KX G hmg TT ?a_is_number ?l_is_number ?c_is_number ?k_is_number ?a_is_day ?l_is_day ?c_is_day ?k_is_day ?a_is_fraction ?l_is_fraction ?c_is_fraction ?k_is_fraction ?a_lowest ?l_lowest ?c_lowest ?k_lowest ?a_plus ?l_plus ?c_plus ?k_plus ?a_times ?l_times ?c_times ?k_times ?a_is_rate ?l_is_rate ?c_is_rate ?k_is_rate ?a_is_rates ?l_is_rates ?c_is_rates ?k_is_rates ?tl_is_rates ?tw_is_rates ?tn_is_rates ?tr_is_rates ?a_interest ?l_interest ?c_interest ?k_interest ?a__law_open ?l__law_open ?c__law_open ?k__law_open ?a__law_mixed ?l__law_mixed ?c__law_mixed ?k__law_mixed ?a__law_draw ?l__law_draw ?c__law_draw ?k__law_draw ?a__law_wide ?l__law_wide ?c__law_wide ?k__law_wide ?a__law_told ?l__law_told ?c__law_told ?k__law_told ?a__law_lowest ?l__law_lowest ?c__law_lowest ?k__law_lowest ?a__law_rates ?l__law_rates ?c__law_rates ?k__law_rates ?a__law_rate ?l__law_rate ?c__law_rate ?k__law_rate ?a__law_up_to ?l__law_up_to ?c__law_up_to ?k__law_up_to ?a__law_short ?l__law_short ?c__law_short ?k__law_short ?a__law_due ?l__law_due ?c__law_due ?k__law_due ?a__law_is ?l__law_is ?c__law_is ?k__law_is ?a__law_asked ?l__law_asked ?c__law_asked ?k__law_asked ?a__law_wrong ?l__law_wrong ?c__law_wrong ?k__law_wrong ?a_law ?l_law ?c_law ?k_law ?z_ValueError ?z_abs ?z_all ?z_bool ?z_int ?z_isinstance ?z_len ?z_list ?z_max ?z_min ?z_range ?z_sorted ?z_tuple ?n_gcd ?m_LAST_DAY ?m_LIMIT ?m_MOST_WHOLE ?m_NOUGHT ?n_NOUGHT ?m_YEAR ?m_DocketError ?b1_DocketError ?t1_DocketError ?xi_DocketError ?m_OutOfRange ?b1_OutOfRange ?t1_OutOfRange ?xi_OutOfRange ?m_Malformed ?b1_Malformed ?t1_Malformed ?xi_Malformed ?m_NotThere ?b1_NotThere ?t1_NotThere ?xi_NotThere ?m_Refused ?b1_Refused ?t1_Refused ?xi_Refused ?m_TooMuch ?b1_TooMuch ?t1_TooMuch ?xi_TooMuch ?q_DocketError ?k_DocketError ?q_Malformed ?k_Malformed ?q_NotThere ?k_NotThere ?q_OutOfRange ?k_OutOfRange ?q_Refused ?k_Refused ?q_TooMuch ?k_TooMuch ?y6 ?y7 ?y1_OutOfRange ?y2_OutOfRange ?y4_OutOfRange ?y5_OutOfRange ?y8_OutOfRange ?y9_OutOfRange ?ya_OutOfRange ?yb_OutOfRange_OutOfRange ?yb_OutOfRange_Malformed ?yb_OutOfRange_NotThere ?yb_OutOfRange_Refused ?yb_OutOfRange_TooMuch ?y1_Malformed ?y2_Malformed ?y4_Malformed ?y5_Malformed ?y8_Malformed ?y9_Malformed ?ya_Malformed ?yb_Malformed_OutOfRange ?yb_Malformed_Malformed ?yb_Malformed_NotThere ?yb_Malformed_Refused ?yb_Malformed_TooMuch ?y1_NotThere ?y2_NotThere ?y4_NotThere ?y5_NotThere ?y8_NotThere ?y9_NotThere ?ya_NotThere ?yb_NotThere_OutOfRange ?yb_NotThere_Malformed ?yb_NotThere_NotThere ?yb_NotThere_Refused ?yb_NotThere_TooMuch ?y1_Refused ?y2_Refused ?y4_Refused ?y5_Refused ?y8_Refused ?y9_Refused ?ya_Refused ?yb_Refused_OutOfRange ?yb_Refused_Malformed ?yb_Refused_NotThere ?yb_Refused_Refused ?yb_Refused_TooMuch ?y1_TooMuch ?y2_TooMuch ?y4_TooMuch ?y5_TooMuch ?y8_TooMuch ?y9_TooMuch ?ya_TooMuch ?yb_TooMuch_OutOfRange ?yb_TooMuch_Malformed ?yb_TooMuch_NotThere ?yb_TooMuch_Refused ?yb_TooMuch_TooMuch
    (case a_is_number => k_is)
    (case l_is_number => k_is)
    (case c_is_number => k_is)
    (case k_is_number => k_is)
    (case a_is_day => k_is)
    (case l_is_day => k_is)
    (case c_is_day => k_is)
    (case k_is_day => k_is)
    (case a_is_fraction => k_is)
    (case l_is_fraction => k_is)
    (case c_is_fraction => k_is)
    (case k_is_fraction => k_is)
    (case a_lowest => k_is)
    (case l_lowest => k_is)
    (case c_lowest => k_is)
    (case k_lowest => k_is)
    (case a_plus => k_is)
    (case l_plus => k_is)
    (case c_plus => k_is)
    (case k_plus => k_is)
    (case a_times => k_is)
    (case l_times => k_is)
    (case c_times => k_is)
    (case k_times => k_is)
    (case a_is_rate => k_is)
    (case l_is_rate => k_is)
    (case c_is_rate => k_is)
    (case k_is_rate => k_is)
    (case a_is_rates => k_is)
    (case l_is_rates => k_is)
    (case c_is_rates => k_is)
    (case k_is_rates => k_is)
    (case tl_is_rates => k_is)
    (case tw_is_rates => rfl)
    (case tn_is_rates => first | rfl | kernel_rfl | decide +kernel)
    (case tr_is_rates => first | rfl | kernel_rfl)
    (case a_interest => k_is)
    (case l_interest => k_is)
    (case c_interest => k_is)
    (case k_interest => k_is)
    (case a__law_open => k_is)
    (case l__law_open => k_is)
    (case c__law_open => k_is)
    (case k__law_open => k_is)
    (case a__law_mixed => k_is)
    (case l__law_mixed => k_is)
    (case c__law_mixed => k_is)
    (case k__law_mixed => k_is)
    (case a__law_draw => k_is)
    (case l__law_draw => k_is)
    (case c__law_draw => k_is)
    (case k__law_draw => k_is)
    (case a__law_wide => k_is)
    (case l__law_wide => k_is)
    (case c__law_wide => k_is)
    (case k__law_wide => k_is)
    (case a__law_told => k_is)
    (case l__law_told => k_is)
    (case c__law_told => k_is)
    (case k__law_told => k_is)
    (case a__law_lowest => k_is)
    (case l__law_lowest => k_is)
    (case c__law_lowest => k_is)
    (case k__law_lowest => k_is)
    (case a__law_rates => k_is)
    (case l__law_rates => k_is)
    (case c__law_rates => k_is)
    (case k__law_rates => k_is)
    (case a__law_rate => k_is)
    (case l__law_rate => k_is)
    (case c__law_rate => k_is)
    (case k__law_rate => k_is)
    (case a__law_up_to => k_is)
    (case l__law_up_to => k_is)
    (case c__law_up_to => k_is)
    (case k__law_up_to => k_is)
    (case a__law_short => k_is)
    (case l__law_short => k_is)
    (case c__law_short => k_is)
    (case k__law_short => k_is)
    (case a__law_due => k_is)
    (case l__law_due => k_is)
    (case c__law_due => k_is)
    (case k__law_due => k_is)
    (case a__law_is => k_is)
    (case l__law_is => k_is)
    (case c__law_is => k_is)
    (case k__law_is => k_is)
    (case a__law_asked => k_is)
    (case l__law_asked => k_is)
    (case c__law_asked => k_is)
    (case k__law_asked => k_is)
    (case a__law_wrong => k_is)
    (case l__law_wrong => k_is)
    (case c__law_wrong => k_is)
    (case k__law_wrong => k_is)
    (case a_law => k_is)
    (case l_law => k_is)
    (case c_law => k_is)
    (case k_law => k_is)
    (case z_ValueError => k_is)
    (case z_abs => k_is)
    (case z_all => k_is)
    (case z_bool => k_is)
    (case z_int => k_is)
    (case z_isinstance => k_is)
    (case z_len => k_is)
    (case z_list => k_is)
    (case z_max => k_is)
    (case z_min => k_is)
    (case z_range => k_is)
    (case z_sorted => k_is)
    (case z_tuple => k_is)
    (case n_gcd => k_is)
    (case m_LAST_DAY => k_is)
    (case m_LIMIT => k_is)
    (case m_MOST_WHOLE => k_is)
    (case m_NOUGHT => k_is)
    (case n_NOUGHT => k_is)
    (case m_YEAR => k_is)
    (case m_DocketError => k_is)
    (case b1_DocketError => k_is)
    (case t1_DocketError => k_is)
    (case xi_DocketError => k_is)
    (case m_OutOfRange => k_is)
    (case b1_OutOfRange => k_is)
    (case t1_OutOfRange => k_is)
    (case xi_OutOfRange => k_is)
    (case m_Malformed => k_is)
    (case b1_Malformed => k_is)
    (case t1_Malformed => k_is)
    (case xi_Malformed => k_is)
    (case m_NotThere => k_is)
    (case b1_NotThere => k_is)
    (case t1_NotThere => k_is)
    (case xi_NotThere => k_is)
    (case m_Refused => k_is)
    (case b1_Refused => k_is)
    (case t1_Refused => k_is)
    (case xi_Refused => k_is)
    (case m_TooMuch => k_is)
    (case b1_TooMuch => k_is)
    (case t1_TooMuch => k_is)
    (case xi_TooMuch => k_is)
    (case q_DocketError => k_exc)
    (case k_DocketError => k_is)
    (case q_Malformed => k_exc)
    (case k_Malformed => k_is)
    (case q_NotThere => k_exc)
    (case k_NotThere => k_is)
    (case q_OutOfRange => k_exc)
    (case k_OutOfRange => k_is)
    (case q_Refused => k_exc)
    (case k_Refused => k_is)
    (case q_TooMuch => k_exc)
    (case k_TooMuch => k_is)
    (case y6 => k_is)
    (case y7 => k_is)
    (case y1_OutOfRange => k_is)
    (case y2_OutOfRange => k_is)
    (case y4_OutOfRange => k_is)
    (case y5_OutOfRange => k_is)
    (case y8_OutOfRange => k_is)
    (case y9_OutOfRange => k_is)
    (case ya_OutOfRange => k_is)
    (case yb_OutOfRange_OutOfRange => k_is)
    (case yb_OutOfRange_Malformed => k_is)
    (case yb_OutOfRange_NotThere => k_is)
    (case yb_OutOfRange_Refused => k_is)
    (case yb_OutOfRange_TooMuch => k_is)
    (case y1_Malformed => k_is)
    (case y2_Malformed => k_is)
    (case y4_Malformed => k_is)
    (case y5_Malformed => k_is)
    (case y8_Malformed => k_is)
    (case y9_Malformed => k_is)
    (case ya_Malformed => k_is)
    (case yb_Malformed_OutOfRange => k_is)
    (case yb_Malformed_Malformed => k_is)
    (case yb_Malformed_NotThere => k_is)
    (case yb_Malformed_Refused => k_is)
    (case yb_Malformed_TooMuch => k_is)
    (case y1_NotThere => k_is)
    (case y2_NotThere => k_is)
    (case y4_NotThere => k_is)
    (case y5_NotThere => k_is)
    (case y8_NotThere => k_is)
    (case y9_NotThere => k_is)
    (case ya_NotThere => k_is)
    (case yb_NotThere_OutOfRange => k_is)
    (case yb_NotThere_Malformed => k_is)
    (case yb_NotThere_NotThere => k_is)
    (case yb_NotThere_Refused => k_is)
    (case yb_NotThere_TooMuch => k_is)
    (case y1_Refused => k_is)
    (case y2_Refused => k_is)
    (case y4_Refused => k_is)
    (case y5_Refused => k_is)
    (case y8_Refused => k_is)
    (case y9_Refused => k_is)
    (case ya_Refused => k_is)
    (case yb_Refused_OutOfRange => k_is)
    (case yb_Refused_Malformed => k_is)
    (case yb_Refused_NotThere => k_is)
    (case yb_Refused_Refused => k_is)
    (case yb_Refused_TooMuch => k_is)
    (case y1_TooMuch => k_is)
    (case y2_TooMuch => k_is)
    (case y4_TooMuch => k_is)
    (case y5_TooMuch => k_is)
    (case y8_TooMuch => k_is)
    (case y9_TooMuch => k_is)
    (case ya_TooMuch => k_is)
    (case yb_TooMuch_OutOfRange => k_is)
    (case yb_TooMuch_Malformed => k_is)
    (case yb_TooMuch_NotThere => k_is)
    (case yb_TooMuch_Refused => k_is)
    (case yb_TooMuch_TooMuch => k_is)

