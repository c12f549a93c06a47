import PyProof.Rows.All
import HandS.ForMost
import HandS.Deep
import HandS.Flow
import HandS.Style
import HandS.Wide
import KE.SortData
import KE.DataCmp
import KE.DataEq
import KE.DataFind
import KE.DataMinMax
import HandS.IsInst
import HandS.TupMul
import PySem.Challenge.RW_ornamentwright_k73_whole_triangles
set_option Elab.async false
set_option linter.all false
set_option maxRecDepth 1000000
/-! MiniPy A: data, cells, the simulation between plain data and the hand layer's abstract heap. -/
namespace L2.MP
open PySem PySem.Spec PyProof.Rows

/-- a value: plain data, a cell (a list or dict that may change), a dict that stays -/
inductive MV where
  | d (x : PyData)
  | c (n : Nat)
  | k (kvs : List (PyData × PyData))

inductive Cell where
  | lst (xs : List MV)
  | dct (kvs : List (PyData × PyData))
  | frz (x : PyData)

abbrev Mh := List Cell
abbrev Me := List (Option MV)

/-- what stays: F; where the cells stand: mu -/
structure Wd where
  F : Hp
  mu : List Addr

section
variable {K : PySem.W.Frag}

theorem sqL_same {H H' : Hp} {a : Addr} {xs : List V} (e : Same H H') (h : SqL K H a xs) : SqL K H' a xs := e.seq h
theorem sqT_same {H H' : Hp} {a : Addr} {xs : List V} (e : Same H H') (h : SqT K H a xs) : SqT K H' a xs := by
  rcases h with (h | ⟨o, h⟩) | h
  · exact .inl (.inl (e _ _ h))
  · exact .inl (.inr ⟨o, e _ _ h⟩)
  · exact .inr h

mutual
theorem Dp.same {H H' : Hp} (e : Same H H') : ∀ (d : PyData) (v : V), Dp K H v d → Dp K H' v d
  | .none, _, h => by cases h; exact .non
  | .bool b, _, h => by cases h; exact .bl b
  | .int i, _, h => by cases h; exact .int i
  | .str x, _, h => by cases h; exact .str x
  | .list ds, _, h => by
    cases h with
    | lst hs ha => exact .lst (sqL_same e hs) (DpAll.same e ds _ ha)
  | .tuple ds, _, h => by
    cases h with
    | tup hs ha => exact .tup (sqT_same e hs) (DpAll.same e ds _ ha)
  | .dict _, _, h => by cases h
theorem DpAll.same {H H' : Hp} (e : Same H H') : ∀ (ds : List PyData) (vs : List V), DpAll K H vs ds → DpAll K H' vs ds
  | [], _, h => by cases h; exact .nil
  | d :: ds, _, h => by
    cases h with
    | cons h1 h2 => exact .cons (Dp.same e d _ h1) (DpAll.same e ds _ h2)
end

/-- a dict that is known: its keys and values -/
def DkRep (K : PySem.W.Frag) (F : Hp) (v : V) (kvs : List (PyData × PyData)) : Prop := False

def RepM (K : PySem.W.Frag) (w : Wd) : MV → V → Prop
  | .d x, v => Dp K w.F v x
  | .c n, v => ∃ a, w.mu[n]? = some a ∧ v = .ref a
  | .k kvs, v => DkRep K w.F v kvs

abbrev RepMs (K : PySem.W.Frag) (w : Wd) : List MV → List V → Prop := Paired (RepM K w)

def CellOk (K : PySem.W.Frag) (w : Wd) (H : Hp) (n : Nat) (a : Addr) : Cell → Prop
  | .lst xs => w.F a = none ∧ ∃ vs, H a = some (.lst vs) ∧ RepMs K w xs vs ∧ ∀ j, MV.c j ∈ xs → j < n
  | .dct _ => False
  | .frz x => Dp K w.F (.ref a) x

structure HSim (K : PySem.W.Frag) (w : Wd) (H : Hp) (hp : Mh) : Prop where
  sub : Same w.F H
  len : w.mu.length = hp.length
  nd : w.mu.Nodup
  trk : ∀ a ∈ w.mu, H a ≠ none
  cell : ∀ n c, hp[n]? = some c → ∃ a, w.mu[n]? = some a ∧ CellOk K w H n a c

structure Le (w w' : Wd) : Prop where
  F : Same w.F w'.F
  mu : ∃ l, w'.mu = w.mu ++ l
theorem Le.refl (w : Wd) : Le w w := ⟨Same.refl _, [], by simp⟩
theorem Le.trans {w w1 w2 : Wd} (a : Le w w1) (b : Le w1 w2) : Le w w2 := by
  obtain ⟨l, e⟩ := a.mu
  obtain ⟨m, e'⟩ := b.mu
  exact ⟨a.F.trans b.F, l ++ m, by rw [e', e, List.append_assoc]⟩
theorem Le.get {w w' : Wd} (l : Le w w') {n : Nat} {a : Addr} (h : w.mu[n]? = some a) : w'.mu[n]? = some a := by
  obtain ⟨m, e⟩ := l.mu
  rw [e, List.getElem?_append_left]
  · exact h
  · exact (List.getElem?_eq_some_iff.mp h).1
theorem Le.mem {w w' : Wd} (l : Le w w') {a : Addr} (h : a ∈ w.mu) : a ∈ w'.mu := by
  obtain ⟨m, e⟩ := l.mu
  rw [e]
  exact List.mem_append_left _ h
theorem RepM.le {w w' : Wd} (l : Le w w') {x : MV} {v : V} (h : RepM K w x v) : RepM K w' x v := by
  cases x with
  | d x => exact Dp.same l.F x v h
  | c n =>
    obtain ⟨a, h1, h2⟩ := h
    exact ⟨a, l.get h1, h2⟩
  | k kvs => exact h.elim
theorem RepMs.le {w w' : Wd} (l : Le w w') {xs : List MV} {vs : List V} (h : RepMs K w xs vs) : RepMs K w' xs vs := Paired.mapP h fun _ _ q => q.le l

/-- what evaluating leaves -/
structure Post (w : Wd) (H : Hp) (w' : Wd) (H' : Hp) : Prop where
  le : Le w w'
  new : ∀ a ∈ w'.mu, a ∈ w.mu ∨ H a = none
  newF : ∀ a, w'.F a ≠ none → w.F a ≠ none ∨ a ∈ w.mu ∨ H a = none
  fr : ∀ a o, H a = some o → a ∉ w.mu → H' a = some o
theorem Post.refl (w : Wd) (H : Hp) : Post w H w H := ⟨Le.refl w, fun _ h => .inl h, fun _ h => .inl h, fun _ _ h _ => h⟩
theorem Post.trans {w w1 w2 : Wd} {H H1 H2 : Hp} (a : Post w H w1 H1) (b : Post w1 H1 w2 H2) : Post w H w2 H2 where
  le := a.le.trans b.le
  new := fun x hx => by
    rcases b.new x hx with h | h
    · exact a.new x h
    · by_cases hm : x ∈ w.mu
      · exact .inl hm
      · refine .inr ?_
        cases e : H x with
        | none => rfl
        | some o => rw [a.fr x o e hm] at h; cases h
  newF := fun x hx => by
    rcases b.newF x hx with h | h | h
    · exact a.newF x h
    · exact .inr (a.new x h)
    · by_cases hm : x ∈ w.mu
      · exact .inr (.inl hm)
      · refine .inr (.inr ?_)
        cases e : H x with
        | none => rfl
        | some o => rw [a.fr x o e hm] at h; cases h
  fr := fun x o h hm => by
    refine b.fr x o (a.fr x o h hm) fun hx => ?_
    rcases a.new x hx with q | q
    · exact hm q
    · rw [q] at h; cases h

structure EnvSim (K : PySem.W.Frag) (w : Wd) (σ : St) (env : Me) : Prop where
  len : env.length = σ.length
  get : ∀ (i : Nat) (x : MV), env[i]? = some (some x) → ∃ v, σ[i]? = some (some v) ∧ RepM K w x v
theorem EnvSim.le {w w' : Wd} (l : Le w w') {σ : St} {env : Me} (h : EnvSim K w σ env) : EnvSim K w' σ env :=
  ⟨h.len, fun i x e => let ⟨v, h1, h2⟩ := h.get i x e; ⟨v, h1, h2.le l⟩⟩
theorem EnvSim.set {w : Wd} {σ : St} {env : Me} (h : EnvSim K w σ env) (i : Nat) {x : MV} {v : V} (r : RepM K w x v) : EnvSim K w (σ.set i (some v)) (env.set i (some x)) := by
  refine ⟨by simp [h.len], fun j y e => ?_⟩
  by_cases hj : i = j
  · subst hj
    by_cases hi : i < env.length
    · rw [List.getElem?_set_self hi] at e
      cases e
      exact ⟨v, List.getElem?_set_self (by rw [← h.len]; exact hi), r⟩
    · rw [List.getElem?_eq_none (by simpa using hi)] at e
      cases e
  · rw [List.getElem?_set_ne hj] at e
    rw [List.getElem?_set_ne hj]
    exact h.get j y e

/-- the reading of an evaluator -/
def tG (K : PySem.W.Frag) {α β : Type} (Rep : Wd → Hp → Hp → α → β → Prop) (f : Me → Mh → Option (α × Mh)) : St → Hp → (β → Hp → Prop) → Prop := fun σ H Q =>
  ∃ w env hp a hp', HSim K w H hp ∧ EnvSim K w σ env ∧ f env hp = some (a, hp') ∧ ∀ w' H' b, Post w H w' H' → HSim K w' H' hp' → Rep w' H H' a b → Q b H'

abbrev Ev := Me → Mh → Option (MV × Mh)
abbrev Evs := Me → Mh → Option (List MV × Mh)
abbrev Et := Me → Mh → Option (Bool × Mh)
/-- a value, or a list just made -/
inductive R where
  | v (x : MV)
  | l (xs : List MV)
abbrev Er := Me → Mh → Option (R × Mh)

def RepR (K : PySem.W.Frag) (w : Wd) (H H' : Hp) : R → V → Prop
  | .v x, v => RepM K w x v
  | .l xs, v => ∃ a vs, v = .ref a ∧ H a = none ∧ w.F a = none ∧ a ∉ w.mu ∧ H' a = some (.lst vs) ∧ RepMs K w xs vs

def tE (K : PySem.W.Frag) (f : Ev) : TE := tG K (fun w _ _ x v => RepM K w x v) f
def tAs (K : PySem.W.Frag) (f : Evs) : TA := tG K (fun w _ _ xs vs => RepMs K w xs vs) f
def tB (K : PySem.W.Frag) (f : Et) : TT := tG K (fun _ _ _ x b => x = b) f
def tR (K : PySem.W.Frag) (f : Er) : TE := tG K (RepR K) f

theorem PE.wk {X : Cx} {e : Expr} {t t' : TE} (h : PE X e t) (k : ∀ σ H Q, t' σ H Q → t σ H Q) : PE X e t' := ⟨fun pins s σ H Q I q => h.run pins s σ H Q I (k σ H Q q)⟩
theorem PT.wk {X : Cx} {e : Expr} {t t' : TT} (h : PT X e t) (k : ∀ σ H Q, t' σ H Q → t σ H Q) : PT X e t' := ⟨fun pins s σ H Q I q => h.run pins s σ H Q I (k σ H Q q)⟩
theorem PW.wk {X : Cx} {e : Expr} {t t' : TT} (h : PW X e t) (k : ∀ σ H Q, t' σ H Q → t σ H Q) : PW X e t' := ⟨fun wh pins s σ H Q I q => h.run wh pins s σ H Q I (k σ H Q q)⟩
theorem PA.wk {X : Cx} {e : List Expr} {t t' : TA} (h : PA X e t) (k : ∀ σ H Q, t' σ H Q → t σ H Q) : PA X e t' := ⟨fun pos pins s σ H Q I q => h.run pos pins s σ H Q I (k σ H Q q)⟩
theorem PS.wk {X : Cx} {e : Stmt} {t t' : TS} (h : PS X e t) (k : ∀ D σ H, t' D σ H → t D σ H) : PS X e t' := ⟨fun pins s σ H D I q => h.run pins s σ H D I (k D σ H q)⟩
theorem PSs.wk {X : Cx} {e : List Stmt} {t t' : TS} (h : PSs X e t) (k : ∀ D σ H, t' D σ H → t D σ H) : PSs X e t' := ⟨fun pins s σ H D I q => h.run pins s σ H D I (k D σ H q)⟩

/-! ### tracked addresses -/
theorem HSim.fresh_mu {w : Wd} {H : Hp} {hp : Mh} (S : HSim K w H hp) {a : Addr} (h : H a = none) : a ∉ w.mu := fun q => S.trk a q h
theorem HSim.fresh_F {w : Wd} {H : Hp} {hp : Mh} (S : HSim K w H hp) {a : Addr} (h : H a = none) : w.F a = none := by
  cases e : w.F a with
  | none => rfl
  | some o => rw [S.sub a o e] at h; cases h
/-- the heap has more that is tracked -/
theorem HSim.more {w : Wd} {H H' : Hp} {hp : Mh} (S : HSim K w H hp) (e : Same H H') : HSim K w H' hp where
  sub := S.sub.trans e
  len := S.len
  nd := S.nd
  trk := fun a ha => by
    cases q : H a with
    | none => exact absurd q (S.trk a ha)
    | some o => rw [e a o q]; simp
  cell := fun n c h => by
    obtain ⟨a, h1, h2⟩ := S.cell n c h
    refine ⟨a, h1, ?_⟩
    cases c with
    | lst xs =>
      obtain ⟨q1, vs, q2, q3⟩ := h2
      exact ⟨q1, vs, e _ _ q2, q3⟩
    | dct _ => exact h2
    | frz x => exact h2
theorem same_upd {H : Hp} {a : Addr} {o : HO} (h : H a = none) : Same H (upd H a o) := fun b u e => by
  rw [upd_ne (ne_of_none e h)]
  exact e
/-- a cell's place is its own -/
theorem HSim.inj {w : Wd} {H : Hp} {hp : Mh} (S : HSim K w H hp) {i j : Nat} {a : Addr} (h1 : w.mu[i]? = some a) (h2 : w.mu[j]? = some a) : i = j := by
  obtain ⟨hi, e1⟩ := List.getElem?_eq_some_iff.mp h1
  obtain ⟨hj, e2⟩ := List.getElem?_eq_some_iff.mp h2
  exact (List.getElem_inj S.nd).mp (e1.trans e2.symm)
/-- a new thing that stays -/
theorem HSim.put {w : Wd} {H : Hp} {hp : Mh} (S : HSim K w H hp) {a : Addr} {o : HO} (h : H a = some o) (hF : w.F a = none) (hm : a ∉ w.mu) :
    HSim K { w with F := upd w.F a o } H hp ∧ Le w { w with F := upd w.F a o } := by
  have l : Le w { w with F := upd w.F a o } := ⟨same_upd hF, [], by simp⟩
  refine ⟨⟨fun b u e => ?_, S.len, S.nd, S.trk, fun n c q => ?_⟩, l⟩
  · by_cases hb : b = a
    · subst hb
      have e' : upd w.F b o b = some u := e
      rw [upd_same] at e'
      cases e'
      exact h
    · have e' : upd w.F a o b = some u := e
      rw [upd_ne hb] at e'
      exact S.sub b u e'
  · obtain ⟨b, h1, h2⟩ := S.cell n c q
    refine ⟨b, h1, ?_⟩
    have hb : b ≠ a := fun z => hm (z ▸ List.mem_of_getElem? h1)
    cases c with
    | lst xs =>
      obtain ⟨q1, vs, q2, q3, q4⟩ := h2
      refine ⟨?_, vs, q2, RepMs.le l q3, q4⟩
      show upd w.F a o b = none
      rw [upd_ne hb]
      exact q1
    | dct _ => exact h2
    | frz x => exact Dp.same l.F x _ h2
/-- a new cell -/
theorem HSim.alloc {w : Wd} {H : Hp} {hp : Mh} (S : HSim K w H hp) {a : Addr} {vs : List V} {xs : List MV} (h : H a = some (.lst vs)) (hF : w.F a = none) (hm : a ∉ w.mu) (r : RepMs K w xs vs) :
    HSim K { w with mu := w.mu ++ [a] } H (hp ++ [.lst xs]) ∧ Le w { w with mu := w.mu ++ [a] } := by
  have l : Le w { w with mu := w.mu ++ [a] } := ⟨Same.refl _, [a], rfl⟩
  refine ⟨⟨S.sub, by simp [S.len], ?_, fun b hb => ?_, fun n c q => ?_⟩, l⟩
  · exact List.nodup_append.mpr ⟨S.nd, by simp, fun x hx y hy e => by
      have : y = a := by simpa using hy
      exact hm (this ▸ e ▸ hx)⟩
  · rcases List.mem_append.mp hb with hb | hb
    · exact S.trk b hb
    · have : b = a := by simpa using hb
      rw [this, h]
      simp
  · by_cases hn : n < hp.length
    · rw [List.getElem?_append_left hn] at q
      obtain ⟨b, h1, h2⟩ := S.cell n c q
      refine ⟨b, l.get h1, ?_⟩
      cases c with
      | lst xs =>
        obtain ⟨q1, vs, q2, q3, q4⟩ := h2
        exact ⟨q1, vs, q2, RepMs.le l q3, q4⟩
      | dct _ => exact h2
      | frz x => exact h2
    · have hn' : n = hp.length := by
        have := (List.getElem?_eq_some_iff.mp q).1
        simp at this
        omega
      subst hn'
      rw [List.getElem?_append_right (Nat.le_refl _)] at q
      simp at q
      subst q
      refine ⟨a, ?_, hF, vs, h, RepMs.le l r, fun j hj => ?_⟩
      · show (w.mu ++ [a])[hp.length]? = some a
        rw [← S.len, List.getElem?_append_right (Nat.le_refl _)]
        simp
      · have : ∀ (xs : List MV) (vs : List V), RepMs K w xs vs → MV.c j ∈ xs → j < hp.length := by
          intro xs vs r
          induction r with
          | nil => intro h; simp at h
          | cons p _ ih =>
            intro h
            rcases List.mem_cons.mp h with e | h
            · subst e
              obtain ⟨b, z, _⟩ := p
              rw [← S.len]
              exact (List.getElem?_eq_some_iff.mp z).1
            · exact ih h
        exact this _ _ r hj
end
end L2.MP
/-! MiniPy B: operations on values. -/
namespace L2.MP
open PySem PySem.Spec PyProof.Rows

def lstOf : MV → Mh → Option (List MV)
  | .d (.list ds), _ => some (ds.map .d)
  | .c n, hp => match hp[n]? with
    | some (.lst xs) => some xs
    | some (.frz (.list ds)) => some (ds.map .d)
    | _ => none
  | _, _ => none
/-- a list's or a tuple's items -/
def seqOf : MV → Mh → Option (List MV)
  | .d (.tuple ds), _ => some (ds.map .d)
  | x, hp => lstOf x hp
def datas : List MV → Option (List PyData)
  | [] => some []
  | .d x :: r => match datas r with
    | some xs => some (x :: xs)
    | none => none
  | _ :: _ => none
/-- a value as data, as it stands -/
def dataOf : MV → Mh → Option PyData
  | .d x, _ => some x
  | .c n, hp => match hp[n]? with
    | some (.lst xs) => match datas xs with
      | some ds => some (.list ds)
      | none => none
    | some (.frz x) => some x
    | _ => none
  | .k _, _ => none

section
variable {K : PySem.W.Frag} {w : Wd} {H : Hp} {hp : Mh}

theorem repMs_of_dpAll : ∀ {ds : List PyData} {vs : List V}, DpAll K w.F vs ds → RepMs K w (ds.map .d) vs
  | [], _, h => by cases h; exact .nil
  | d :: ds, _, h => by
    cases h with
    | cons h1 h2 => exact .cons h1 (repMs_of_dpAll h2)
theorem dpAll_of_repMs : ∀ {xs : List MV} {ds : List PyData} {vs : List V}, RepMs K w xs vs → datas xs = some ds → DpAll K w.F vs ds
  | [], ds, _, h, e => by
    cases h
    simp only [datas, Option.some.injEq] at e
    subst e
    exact .nil
  | .d x :: r, ds, _, h, e => by
    cases h with
    | cons h1 h2 =>
      unfold datas at e
      split at e
      · rename_i xs e'
        simp only [Option.some.injEq] at e
        subst e
        exact .cons h1 (dpAll_of_repMs h2 e')
      · cases e
  | .c _ :: _, _, _, _, e => by simp [datas] at e
  | .k _ :: _, _, _, _, e => by simp [datas] at e
theorem datas_map : ∀ (ds : List PyData), datas (ds.map .d) = some ds
  | [] => rfl
  | d :: ds => by
    show (match datas (ds.map .d) with | some xs => some (d :: xs) | none => none) = _
    rw [datas_map ds]
theorem lstOf_sound (S : HSim K w H hp) {x : MV} {v : V} (r : RepM K w x v) {xs : List MV} (e : lstOf x hp = some xs) : ∃ a vs, v = .ref a ∧ SqL K H a vs ∧ RepMs K w xs vs := by
  cases x with
  | d x =>
    cases x <;> simp [lstOf] at e
    subst e
    cases r with
    | lst hs ha => exact ⟨_, _, rfl, sqL_same S.sub hs, repMs_of_dpAll ha⟩
  | c n =>
    obtain ⟨a, h1, rfl⟩ := r
    have e : (match hp[n]? with | some (.lst xs) => some xs | some (.frz (.list ds)) => some (ds.map .d) | _ => none) = some xs := e
    split at e
    · rename_i ys e'
      cases e
      obtain ⟨b, h2, h3⟩ := S.cell n _ e'
      rw [h1] at h2
      cases h2
      obtain ⟨q1, vs, q2, q3, _⟩ := h3
      exact ⟨a, vs, rfl, .of q2, q3⟩
    · rename_i ds e'
      cases e
      obtain ⟨b, h2, h3⟩ := S.cell n _ e'
      rw [h1] at h2
      cases h2
      cases h3 with
      | lst hs ha => exact ⟨_, _, rfl, sqL_same S.sub hs, repMs_of_dpAll ha⟩
    · cases e
  | k _ => simp [lstOf] at e
theorem seqOf_sound (S : HSim K w H hp) {x : MV} {v : V} (r : RepM K w x v) {xs : List MV} (e : seqOf x hp = some xs) : ∃ a vs, v = .ref a ∧ (SqL K H a vs ∨ SqT K H a vs) ∧ RepMs K w xs vs := by
  unfold seqOf at e
  split at e
  · cases e
    cases r with
    | tup hs ha => exact ⟨_, _, rfl, .inr (sqT_same S.sub hs), repMs_of_dpAll ha⟩
  · obtain ⟨a, vs, h1, h2, h3⟩ := lstOf_sound S r e
    exact ⟨a, vs, h1, .inl h2, h3⟩
theorem dataOf_sound (S : HSim K w H hp) {x : MV} {v : V} (r : RepM K w x v) {d : PyData} (e : dataOf x hp = some d) : Dp K H v d := by
  cases x with
  | d x =>
    simp [dataOf] at e
    subst e
    exact Dp.same S.sub _ _ r
  | c n =>
    obtain ⟨a, h1, rfl⟩ := r
    have e : (match hp[n]? with | some (.lst xs) => (match datas xs with | some ds => some (PyData.list ds) | none => none) | some (.frz x) => some x | _ => none) = some d := e
    split at e
    · rename_i ys e'
      split at e
      · rename_i ds e2
        cases e
        obtain ⟨b, h2, h3⟩ := S.cell n _ e'
        rw [h1] at h2
        cases h2
        obtain ⟨q1, vs, q2, q3, _⟩ := h3
        exact .lst (.of q2) (DpAll.same S.sub _ _ (dpAll_of_repMs q3 e2))
      · cases e
    · rename_i ds e'
      cases e
      obtain ⟨b, h2, h3⟩ := S.cell n _ e'
      rw [h1] at h2
      cases h2
      exact Dp.same S.sub _ _ h3
    · cases e
  | k _ => simp [dataOf] at e

/-! ### ends -/
/-- from the heap behind -/
theorem Post.laid (w : Wd) {H : Hp} {a : Addr} {o : HO} (h : H a = none) : Post w H w (upd H a o) :=
  ⟨Le.refl w, fun _ q => .inl q, fun _ q => .inl q, fun b u e _ => same_upd h b u e⟩
theorem Post.laidF {w : Wd} {H : Hp} {a : Addr} {o : HO} (h : H a = none) (hF : w.F a = none) : Post w H { w with F := upd w.F a o } (upd H a o) :=
  ⟨⟨same_upd hF, [], by simp⟩, fun _ q => .inl q, fun b q => by
    by_cases hb : b = a
    · exact .inr (.inr (hb ▸ h))
    · have q' : upd w.F a o b ≠ none := q
      rw [upd_ne hb] at q'
      exact .inl q', fun b u e _ => same_upd h b u e⟩
theorem fin_tup (S : HSim K w H hp) {ds : List PyData} {vs : List V} (r : DpAll K w.F vs ds) {p : Addr} (hn : H p = none) {Q : VK}
    (q : ∀ w' H' v, Post w H w' H' → HSim K w' H' hp → Dp K w'.F v (.tuple ds) → Q v H') : Q (.ref p) (upd H p (.tup vs)) := by
  have S1 := S.more (same_upd (o := .tup vs) hn)
  obtain ⟨S2, l⟩ := S1.put (a := p) (o := .tup vs) upd_same (S.fresh_F hn) (S.fresh_mu hn)
  exact q _ _ _ (Post.laidF hn (S.fresh_F hn)) S2 (.tup (.of upd_same) (DpAll.same l.F _ _ r))
theorem fin_lst (S : HSim K w H hp) {xs : List MV} {vs : List V} (r : RepMs K w xs vs) {p : Addr} (hn : H p = none) {Q : VK}
    (q : ∀ w' H' v, Post w H w' H' → HSim K w' H' hp → RepR K w' H H' (.l xs) v → Q v H') : Q (.ref p) (upd H p (.lst vs)) :=
  q _ _ _ (Post.laid w hn) (S.more (same_upd hn)) ⟨p, vs, rfl, hn, S.fresh_F hn, S.fresh_mu hn, upd_same, r⟩
theorem RepR.back {w1 w3 : Wd} {H1 H3 : Hp} {r : R} {v : V} (P : Post w H w1 H1) (l : Le w1 w3) (h : RepR K w3 H1 H3 r v) : RepR K w3 H H3 r v := by
  cases r with
  | v x => exact h
  | l xs =>
    obtain ⟨a, vs, h1, h2, h3, h4, h5⟩ := h
    refine ⟨a, vs, h1, ?_, h3, h4, h5⟩
    cases e : H a with
    | none => rfl
    | some o =>
      have : a ∉ w.mu := fun q => h4 (l.mem (P.le.mem q))
      rw [P.fr a o e this] at h2
      cases h2
end

/-! ### an operation's reading -/
def rOp (K : PySem.W.Frag) (op : MV → MV → Mh → Option R) : R2 := fun x y H Q => ∃ w hp a b r, HSim K w H hp ∧ RepM K w a x ∧ RepM K w b y ∧ op a b hp = some r ∧
  ∀ w' H' v, Post w H w' H' → HSim K w' H' hp → RepR K w' H H' r v → Q v H'
def rUn (K : PySem.W.Frag) (op : MV → Mh → Option R) : V → Hp → VK → Prop := fun x H Q => ∃ w hp a r, HSim K w H hp ∧ RepM K w a x ∧ op a hp = some r ∧
  ∀ w' H' v, Post w H w' H' → HSim K w' H' hp → RepR K w' H H' r v → Q v H'
def rCallM (K : PySem.W.Frag) (op : List MV → Mh → Option R) : List V → Hp → VK → Prop := fun xs H Q => ∃ w hp as r, HSim K w H hp ∧ RepMs K w as xs ∧ op as hp = some r ∧
  ∀ w' H' v, Post w H w' H' → HSim K w' H' hp → RepR K w' H H' r v → Q v H'

def mulOk (a b : Int) : Bool := decide (a.natAbs < 2 ^ 64) || decide (b.natAbs < 2 ^ 64) || decide (a.natAbs.log2 + b.natAbs.log2 < 1000000)
def divOk (b : Int) : Bool := b != 0 && decide (b.natAbs.log2 < 9000)
theorem mulOk_ok {a b : Int} (h : mulOk a b = true) : IntMulOk a b := by
  unfold mulOk at h
  simp only [Bool.or_eq_true, decide_eq_true_eq] at h
  rcases h with (h | h) | h
  · exact .of_left (intBits_le_64 (by omega) (by omega))
  · exact .of_right (intBits_le_64 (by omega) (by omega))
  · exact CMulW.ok h

def iv (i : Int) : Option R := some (.v (.d (.int i)))
def bv (b : Bool) : Option R := some (.v (.d (.bool b)))
def dv (x : PyData) : Option R := some (.v (.d x))

def addL (a b : MV) (hp : Mh) : Option R := match lstOf a hp, lstOf b hp with
  | some xs, some ys => if xs.length + ys.length ≤ sizeLine then some (.l (xs ++ ys)) else none
  | _, _ => none
def opAdd (a b : MV) (hp : Mh) : Option R :=
  match a, b with
  | .d (.int i), .d (.int j) => iv (i + j)
  | .d (.str x), .d (.str y) => if x.length + y.length ≤ sizeLine then dv (.str (x ++ y)) else none
  | .d (.tuple xs), .d (.tuple ys) => if xs.length + ys.length ≤ sizeLine then dv (.tuple (xs ++ ys)) else none
  | a, b => addL a b hp
def opSub (a b : MV) (_ : Mh) : Option R :=
  match a, b with
  | .d (.int i), .d (.int j) => iv (i - j)
  | _, _ => none
def opDiv (a b : MV) (_ : Mh) : Option R :=
  match a, b with
  | .d (.int i), .d (.int j) => if divOk j then iv (i.fdiv j) else none
  | _, _ => none
def opMod (a b : MV) (_ : Mh) : Option R :=
  match a, b with
  | .d (.int i), .d (.int j) => if j = 0 then none else iv (i.fmod j)
  | _, _ => none
def opPow (a b : MV) (_ : Mh) : Option R :=
  match a, b with
  | .d (.int i), .d (.int j) => if 0 ≤ j ∧ j ≤ 1000000 ∧ i.natAbs < 2 ^ 64 then iv (i ^ j.toNat) else none
  | _, _ => none
def opShl (a b : MV) (_ : Mh) : Option R :=
  match a, b with
  | .d (.int i), .d (.int j) => if 0 ≤ j ∧ j ≤ 1000000 ∧ i.natAbs < 2 ^ 64 then iv (i * 2 ^ j.toNat) else none
  | _, _ => none
def rep {α : Type} (k : Int) (xs : List α) : List α := (List.replicate k.toNat xs).flatten
def mulL (a : MV) (k : Int) (hp : Mh) : Option R := match lstOf a hp with
  | some xs => if -(2 ^ 63) ≤ k ∧ k < 2 ^ 63 ∧ xs.length * k.toNat ≤ sizeLine then some (.l (rep k xs)) else none
  | none => none
def opMul (a b : MV) (hp : Mh) : Option R :=
  match a, b with
  | .d (.int i), .d (.int j) => if mulOk i j then iv (i * j) else none
  | .d (.tuple xs), .d (.int k) => if xs ≠ [] ∧ 2 ≤ k ∧ k ≤ 1000 ∧ xs.length ≤ 1000 then dv (.tuple (rep k xs)) else none
  | a, .d (.int k) => mulL a k hp
  | _, _ => none

section
variable {X : Cx}
theorem isL_of {K : PySem.W.Frag} {H : Hp} {a : Addr} {vs : List V} {pins : List (Addr × Obj)} {σ : St} {s : Shared} (I : Inv X pins σ H s) (h : SqL X.K H a vs) :
    ∃ (its : List Value) (n : Nat) (dd : Option Addr) (sl : Array (Option Value)), Vals vs its ∧ vs.length = its.length ∧ vs.length ≤ sizeLine ∧ s.heap.get? a = some { cls := .type "list", dict := dd, data := .seq its.toArray n, slots := sl } := by
  obtain ⟨its, rv, ⟨⟨cls, dd, data, sl⟩, n, ho, hc, _, hd⟩, hz⟩ := I.list h
  simp only at hc hd
  subst hc hd
  exact ⟨its, n, dd, sl, rv, rv.length, hz, ho⟩
theorem isT_of {K : PySem.W.Frag} {H : Hp} {a : Addr} {vs : List V} {pins : List (Addr × Obj)} {σ : St} {s : Shared} (I : Inv X pins σ H s) (h : SqT X.K H a vs) :
    ∃ (its : List Value) (n : Nat) (dd : Option Addr) (sl : Array (Option Value)), Vals vs its ∧ vs.length = its.length ∧ vs.length ≤ sizeLine ∧ s.heap.get? a = some { cls := .type "tuple", dict := dd, data := .seq its.toArray n, slots := sl } := by
  obtain ⟨its, rv, ⟨⟨cls, dd, data, sl⟩, ho, hc, n, hd⟩, hz⟩ := I.tuple h
  simp only at hc hd
  subst hc hd
  exact ⟨its, n, dd, sl, rv, rv.length, hz, ho⟩

/-- list + list, any two that are read -/
def rCatL (K : PySem.W.Frag) : R2 := fun x y H Q => ∃ l b xs zs, x = .ref l ∧ y = .ref b ∧ SqL K H l xs ∧ SqL K H b zs ∧ xs.length + zs.length ≤ sizeLine ∧ ∀ p, H p = none → Q (.ref p) (upd H p (.lst (xs ++ zs)))
theorem op_catL : OpR X (binaryOp .Add) (rCatL X.K) := by
  intro pins s σ H x y v u Q I rx ry h
  obtain ⟨l, b, xs, zs, rfl, rfl, hH, hB, hz, q⟩ := h
  cases rx
  cases ry
  obtain ⟨its, n, dd, sl, r, hl, _, e⟩ := isL_of (K := X.K) I hH
  obtain ⟨its2, n2, dd2, sl2, r2, hl2, _, e2⟩ := isL_of (K := X.K) I hB
  refine concat_meets ⟨_, e, rfl⟩ ⟨_, e2, rfl⟩ noFill_list_add seq_list_add PySem.F.slot_list_add PySem.F.entry_list_add (PySem.F.args_list_add_2 _ _) (list_addW l b its.toArray its2.toArray n n2 dd dd2 sl sl2 (by simp; omega)) ⟨e, e2, ?_⟩
  have ea : its.toArray ++ its2.toArray = (its ++ its2).toArray := by simp
  rw [ea]
  exact ⟨.ref _, _, I.lnew (t' := s.toks) (r.append r2) (by rw [List.length_append]; omega), rfl, q _ I.fresh⟩
/-- tuple + tuple -/
def rCatTT (K : PySem.W.Frag) : R2 := fun x y H Q => ∃ l b xs zs, x = .ref l ∧ y = .ref b ∧ SqT K H l xs ∧ SqT K H b zs ∧ xs.length + zs.length ≤ sizeLine ∧
  (xs = [] → Q y H) ∧ (zs = [] → Q x H) ∧ ∀ p, H p = none → Q (.ref p) (upd H p (.tup (xs ++ zs)))
theorem op_catTT : OpR X (binaryOp .Add) (rCatTT X.K) := by
  intro pins s σ H x y v u Q I rx ry h
  obtain ⟨l, b, xs, zs, rfl, rfl, hH, hB, hz, q1, q2, q⟩ := h
  cases rx
  cases ry
  obtain ⟨its, n, dd, sl, r, hl, _, e⟩ := isT_of (K := X.K) I hH
  obtain ⟨its2, n2, dd2, sl2, r2, hl2, _, e2⟩ := isT_of (K := X.K) I hB
  by_cases h0 : its = []
  · subst h0
    refine concat_meets ⟨_, e, rfl⟩ ⟨_, e2, rfl⟩ noFill_tuple_add seq_tuple_add PySem.F.slot_tuple_add PySem.F.entry_tuple_add (PySem.F.args_tuple_add_2 _ _) (tuple_addW0 l b _ its2.toArray n n2 dd dd2 sl sl2 (by simp)) ⟨e, e2, ?_⟩
    exact ⟨.ref b, H, I, rfl, q1 (r.nil_iff.mp rfl)⟩
  · by_cases h1 : its2 = []
    · subst h1
      refine concat_meets ⟨_, e, rfl⟩ ⟨_, e2, rfl⟩ noFill_tuple_add seq_tuple_add PySem.F.slot_tuple_add PySem.F.entry_tuple_add (PySem.F.args_tuple_add_2 _ _) (tuple_addW1 l b its.toArray _ n n2 dd dd2 sl sl2 (by simpa using h0) (by simp)) ⟨e, e2, ?_⟩
      exact ⟨.ref l, H, I, rfl, q2 (r2.nil_iff.mp rfl)⟩
    · refine concat_meets ⟨_, e, rfl⟩ ⟨_, e2, rfl⟩ noFill_tuple_add seq_tuple_add PySem.F.slot_tuple_add PySem.F.entry_tuple_add (PySem.F.args_tuple_add_2 _ _) (tuple_addW2 l b its.toArray its2.toArray n n2 dd dd2 sl sl2 (by simpa using h0) (by simpa using h1) (by simp; omega)) ⟨e, e2, ?_⟩
      have ea : its.toArray ++ its2.toArray = (its ++ its2).toArray := by simp
      rw [ea]
      refine ⟨.ref _, _, I.laid (t' := s.toks) (fun b u e => Heap.get?_push_of_some _ e) (Nat.le_refl _) ?_, rfl, q _ I.fresh⟩
      exact ⟨by rw [List.length_append]; omega, its ++ its2, r.append r2, ⟨_, Heap.get?_push_size _ rfl, rfl, _, rfl⟩⟩

theorem dpAll_length {K : PySem.W.Frag} {F : Hp} : ∀ {ds : List PyData} {vs : List V}, DpAll K F vs ds → vs.length = ds.length
  | [], _, h => by cases h; rfl
  | _ :: _, _, h => by cases h with | cons _ t => simp [dpAll_length t]
theorem dpAll_append {K : PySem.W.Frag} {F : Hp} : ∀ {ds es : List PyData} {vs us : List V}, DpAll K F vs ds → DpAll K F us es → DpAll K F (vs ++ us) (ds ++ es)
  | [], _, _, _, h, g => by cases h; exact g
  | _ :: _, _, _, _, h, g => by cases h with | cons a t => exact .cons a (dpAll_append t g)
theorem repMs_append {K : PySem.W.Frag} {w : Wd} : ∀ {ds es : List MV} {vs us : List V}, RepMs K w ds vs → RepMs K w es us → RepMs K w (ds ++ es) (vs ++ us)
  | _, _, _, _, .nil, g => g
  | _, _, _, _, .cons a t, g => .cons a (repMs_append t g)

theorem ok_add : OpR X (binaryOp .Add) (rOp X.K opAdd) := by
  intro pins s σ H x y v u Q I rx ry h
  obtain ⟨w, hp, a, b, r, S, ra, rb, e, q⟩ := h
  unfold opAdd at e
  split at e
  · cases e
    cases ra
    cases rb
    exact op_add pins s σ H _ _ v u Q I rx ry ⟨_, _, rfl, rfl, q _ _ _ (Post.refl _ _) S (.int _)⟩
  · split at e
    · rename_i hz
      cases e
      cases ra
      cases rb
      exact op_add_str pins s σ H _ _ v u Q I rx ry ⟨_, _, rfl, rfl, hz, q _ _ _ (Post.refl _ _) S (.str _)⟩
    · cases e
  · split at e
    · rename_i hz
      cases e
      cases ra with
      | tup hs ha =>
        cases rb with
        | tup ht hb =>
          refine op_catTT pins s σ H _ _ v u Q I rx ry ⟨_, _, _, _, rfl, rfl, sqT_same S.sub hs, sqT_same S.sub ht, by rw [dpAll_length ha, dpAll_length hb]; exact hz, fun z => ?_, fun z => ?_, fun p hn => ?_⟩
          · subst z
            cases ha
            exact q _ _ _ (Post.refl _ _) S (.tup ht hb)
          · subst z
            cases hb
            rw [List.append_nil] at q
            exact q _ _ _ (Post.refl _ _) S (.tup hs ha)
          · exact fin_tup S (dpAll_append ha hb) hn q
    · cases e
  · unfold addL at e
    split at e
    · rename_i e1 e2
      split at e
      · rename_i hz
        cases e
        obtain ⟨l, vs, rfl, h1, r1⟩ := lstOf_sound S ra e1
        obtain ⟨m, us, rfl, h2, r2⟩ := lstOf_sound S rb e2
        refine op_catL pins s σ H _ _ v u Q I rx ry ⟨_, _, _, _, rfl, rfl, h1, h2, by rw [← Paired.length r1, ← Paired.length r2]; exact hz, fun p hn => ?_⟩
        exact fin_lst S (repMs_append r1 r2) hn q
      · cases e
    · cases e
theorem ok_sub : OpR X (binaryOp .Sub) (rOp X.K opSub) := by
  intro pins s σ H x y v u Q I rx ry h
  obtain ⟨w, hp, a, b, r, S, ra, rb, e, q⟩ := h
  unfold opSub at e
  split at e
  · cases e
    cases ra
    cases rb
    exact op_sub pins s σ H _ _ v u Q I rx ry ⟨_, _, rfl, rfl, q _ _ _ (Post.refl _ _) S (.int _)⟩
  · cases e
theorem ok_div : OpR X (binaryOp .FloorDiv) (rOp X.K opDiv) := by
  intro pins s σ H x y v u Q I rx ry h
  obtain ⟨w, hp, a, b, r, S, ra, rb, e, q⟩ := h
  unfold opDiv at e
  split at e
  · split at e
    · rename_i hz
      cases e
      cases ra
      cases rb
      unfold divOk at hz
      simp only [Bool.and_eq_true, bne_iff_ne, ne_eq, decide_eq_true_eq] at hz
      obtain ⟨t, rfl⟩ := rx
      obtain ⟨t', rfl⟩ := ry
      exact floordiv_int hz.1 ⟨.int _, H, I.tok _, ⟨_, rfl⟩, q _ _ _ (Post.refl _ _) S (.int _)⟩ (.inl (PyProof.noPylong_of_log2 hz.2))
    · cases e
  · cases e
theorem ok_mod : OpR X (binaryOp .Mod) (rOp X.K opMod) := by
  intro pins s σ H x y v u Q I rx ry h
  obtain ⟨w, hp, a, b, r, S, ra, rb, e, q⟩ := h
  unfold opMod at e
  split at e
  · split at e
    · cases e
    · rename_i hz
      cases e
      cases ra
      cases rb
      exact op_modN pins s σ H _ _ v u Q I rx ry ⟨_, _, rfl, rfl, hz, q _ _ _ (Post.refl _ _) S (.int _)⟩
  · cases e
theorem ok_pow : OpR X (binaryOp .Pow) (rOp X.K opPow) := by
  intro pins s σ H x y v u Q I rx ry h
  obtain ⟨w, hp, a, b, r, S, ra, rb, e, q⟩ := h
  unfold opPow at e
  split at e
  · split at e
    · rename_i hz
      cases e
      cases ra
      cases rb
      exact op_pow pins s σ H _ _ v u Q I rx ry ⟨_, _, rfl, rfl, hz, q _ _ _ (Post.refl _ _) S (.int _)⟩
    · cases e
  · cases e
theorem ok_shl : OpR X (binaryOp .LShift) (rOp X.K opShl) := by
  intro pins s σ H x y v u Q I rx ry h
  obtain ⟨w, hp, a, b, r, S, ra, rb, e, q⟩ := h
  unfold opShl at e
  split at e
  · split at e
    · rename_i hz
      cases e
      cases ra
      cases rb
      exact op_shl pins s σ H _ _ v u Q I rx ry ⟨_, _, rfl, rfl, hz, q _ _ _ (Post.refl _ _) S (.int _)⟩
    · cases e
  · cases e
end
end L2.MP
/-! MiniPy C: comparisons, truth, items, slices, the built-ins' values. -/
namespace L2.MP
open PySem PySem.Spec PyProof.Rows

/-! ### comparisons -/
/-- not too deep -/
def dOk (x : PyData) : Bool := decide (x.depth ≤ 64)
def eqM (a b : MV) (hp : Mh) : Option Bool :=
  match dataOf a hp, dataOf b hp with
  | some x, some y => if dOk x || dOk y then some (PyData.eqv x y) else none
  | _, _ => none
def nn (x : PyData) : Bool := match x with
  | .none => false
  | _ => true
def ltD (x y : PyData) : Option Bool :=
  match x, y with
  | .int i, .int j => some (decide (i < j))
  | x, y => if PySem.W.alike x y && dOk x && nn x then some (PySem.W.dataLt x y) else none
def ltM (a b : MV) (hp : Mh) : Option Bool :=
  match dataOf a hp, dataOf b hp with
  | some x, some y => ltD x y
  | _, _ => none
def strIn (x y : Str) : Bool := !(Builtin.Str.occurrences y x 0 y.length 1).isEmpty
def inM (a b : MV) (hp : Mh) : Option Bool :=
  match dataOf a hp, dataOf b hp with
  | some (.str x), some (.str y) => some (strIn x y)
  | some x, some (.list ds) => if dOk x then some (ds.any fun z => PyData.eqv z x) else none
  | some x, some (.tuple ds) => if dOk x then some (ds.any fun z => PyData.eqv z x) else none
  | _, _ => none
def isNone (a : MV) : Bool := match a with
  | .d .none => true
  | _ => false
def cmpM (op : CmpOp) (a b : MV) (hp : Mh) : Option Bool :=
  match op with
  | .Eq => eqM a b hp
  | .NotEq => (eqM a b hp).map (!·)
  | .Lt => ltM a b hp
  | .Gt => match dataOf a hp, dataOf b hp with
    | some (.int i), some (.int j) => some (decide (j < i))
    | some x, some y => if PySem.W.alike x y && dOk x && nn x then some (PySem.W.dataLt y x) else none
    | _, _ => none
  | .LtE => match dataOf a hp, dataOf b hp with
    | some (.int i), some (.int j) => some (decide (i ≤ j))
    | some x, some y => if PySem.W.alike x y && dOk x && nn x then some (!PySem.W.dataLt y x) else none
    | _, _ => none
  | .GtE => match dataOf a hp, dataOf b hp with
    | some (.int i), some (.int j) => some (decide (j ≤ i))
    | some x, some y => if PySem.W.alike x y && dOk x && nn x then some (!PySem.W.dataLt x y) else none
    | _, _ => none
  | .In => inM a b hp
  | .NotIn => (inM a b hp).map (!·)
  | .Is => match a, b with
    | .k _, _ => none
    | a, .d .none => some (isNone a)
    | _, _ => none
  | .IsNot => match a, b with
    | .k _, _ => none
    | a, .d .none => some (!isNone a)
    | _, _ => none

def rCmp (K : PySem.W.Frag) (op : MV → MV → Mh → Option Bool) : R2 := fun x y H Q => ∃ w hp a b k, HSim K w H hp ∧ RepM K w a x ∧ RepM K w b y ∧ op a b hp = some k ∧ Q (.bl k) H

section
variable {X : Cx}
theorem min_dOk {A : Around} {x y : PyData} (h : (dOk x || dOk y) = true) (hu : A.units + 64 < cLine) : A.units + min x.depth y.depth < cLine := by
  unfold dOk at h
  rw [Bool.or_eq_true, decide_eq_true_eq, decide_eq_true_eq] at h
  have h1 : min x.depth y.depth ≤ x.depth := Nat.min_le_left _ _
  have h2 : min x.depth y.depth ≤ y.depth := Nat.min_le_right _ _
  omega
theorem min_dOk1 {A : Around} {x : PyData} {n : Nat} (h : dOk x = true) (hu : A.units + 65 < cLine) : A.units + 1 + min n x.depth < cLine := by
  unfold dOk at h
  rw [decide_eq_true_eq] at h
  have h2 : min n x.depth ≤ x.depth := Nat.min_le_right _ _
  omega
mutual
theorem Dp.plain {K : PySem.W.Frag} {H : Hp} : ∀ (d : PyData) (v : V), Dp K H v d → d.plain = true
  | .none, _, _ => by simp [PyData.plain]
  | .bool _, _, _ => by simp [PyData.plain]
  | .int _, _, _ => by simp [PyData.plain]
  | .str _, _, _ => by simp [PyData.plain]
  | .list ds, _, h => by
    cases h with
    | lst _ ha => simpa [PyData.plain] using DpAll.plain ds _ ha
  | .tuple ds, _, h => by
    cases h with
    | tup _ ha => simpa [PyData.plain] using DpAll.plain ds _ ha
  | .dict _, _, h => by cases h
theorem DpAll.plain {K : PySem.W.Frag} {H : Hp} : ∀ (ds : List PyData) (vs : List V), DpAll K H vs ds → PyData.plainAll ds = true
  | [], _, _ => by simp [PyData.plainAll]
  | d :: ds, _, h => by
    cases h with
    | cons h1 h2 => simp [PyData.plainAll, Dp.plain d _ h1, DpAll.plain ds _ h2]
end
theorem dp_list {K : PySem.W.Frag} {H : Hp} {v : V} {ds : List PyData} (h : Dp K H v (.list ds)) : PyData.plainAll ds = true := by simpa [PyData.plain] using Dp.plain _ _ h
theorem dp_tup {K : PySem.W.Frag} {H : Hp} {v : V} {ds : List PyData} (h : Dp K H v (.tuple ds)) : PyData.plainAll ds = true := by simpa [PyData.plain] using Dp.plain _ _ h
theorem notNone {x : PyData} (h : nn x = true) : x ≠ .none := by
  intro e
  subst e
  cases h
theorem isNone_rel {K : PySem.W.Frag} {w : Wd} {a : MV} {x : V} (r : RepM K w a x) : isNone a = decide (x = .non) := by
  cases a with
  | d y =>
    cases y <;> (cases r <;> rfl)
  | c n =>
    obtain ⟨b, _, rfl⟩ := r
    rfl
  | k _ => exact r.elim
theorem ok_cmp (hu : X.A.units + 65 < cLine) (op : CmpOp) : OpR X (compareOp op) (rCmp X.K (cmpM op)) := by
  intro pins s σ H x y v u Q I rx ry h
  obtain ⟨w, hp, a, b, k, S, ra, rb, e, q⟩ := h
  have fin : ∀ {k : Bool} {s : Shared}, Inv X pins σ H s → Q (.bl k) H → EP X pins σ Q (.bool k) s := fun I q => ⟨.bl _, H, I, rfl, q⟩
  have rd : ∀ {a : MV} {x : V} {v : Value} {d : PyData}, RepM X.K w a x → RelV x v → dataOf a hp = some d → ∃ as, Reads s.heap v d as := fun ra rx e => Dp.reads I _ _ _ (dataOf_sound S ra e) rx
  have hEq : ∀ {k : Bool}, eqM a b hp = some k → (∀ Q', Q' (.bool k) s → wpAny (model X.prog X.w) X.A (compareOp .Eq v u) Q' X.xe s) ∧ (∀ Q', Q' (.bool (!k)) s → wpAny (model X.prog X.w) X.A (compareOp .NotEq v u) Q' X.xe s) := by
    intro k e
    unfold eqM at e
    split at e
    · rename_i d1 d2 e1 e2
      split at e
      · rename_i hs
        simp only [Option.some.injEq] at e
        subst e
        obtain ⟨as, r1⟩ := rd ra rx e1
        obtain ⟨bs, r2⟩ := rd rb ry e2
        have p1 := Dp.plain _ _ (dataOf_sound S ra e1)
        have p2 := Dp.plain _ _ (dataOf_sound S rb e2)
        exact ⟨fun Q' hq => SeqAt.eq_plain r1 r2 p1 p2 (min_dOk hs (by omega)) hq, fun Q' hq => SeqAt.ne_plain r1 r2 p1 p2 (min_dOk hs (by omega)) hq⟩
      · cases e
    · cases e
  have hIn : ∀ {k : Bool}, inM a b hp = some k → (∀ Q', Q' (.bl k) H → wpAny (model X.prog X.w) X.A (compareOp .In v u) (EP X pins σ Q') X.xe s) ∧ (∀ Q', Q' (.bl (!k)) H → wpAny (model X.prog X.w) X.A (compareOp .NotIn v u) (EP X pins σ Q') X.xe s) := by
    intro k e
    unfold inM at e
    split at e
    · rename_i z1 z2 e1 e2
      simp only [Option.some.injEq] at e
      subst e
      have d1 := dataOf_sound S ra e1
      have d2 := dataOf_sound S rb e2
      cases d1
      cases d2
      exact ⟨fun Q' hq => op_in_str pins s σ H _ _ v u Q' I rx ry ⟨_, _, rfl, rfl, hq⟩, fun Q' hq => op_notin_str pins s σ H _ _ v u Q' I rx ry ⟨_, _, rfl, rfl, hq⟩⟩
    · rename_i d1 ds _ e1 e2
      split at e
      · rename_i hs
        simp only [Option.some.injEq] at e
        subst e
        obtain ⟨as, r1⟩ := rd ra rx e1
        obtain ⟨bs, r2⟩ := rd rb ry e2
        have p1 := Dp.plain _ _ (dataOf_sound S ra e1)
        have p2 := dp_list (dataOf_sound S rb e2)
        exact ⟨fun Q' hq => SeqAt.in_list_data r2 r1 p2 p1 (min_dOk1 hs hu) ⟨.bl _, H, I, rfl, hq⟩, fun Q' hq => SeqAt.notIn_list_data r2 r1 p2 p1 (min_dOk1 hs hu) ⟨.bl _, H, I, rfl, hq⟩⟩
      · cases e
    · rename_i d1 ds _ e1 e2
      split at e
      · rename_i hs
        simp only [Option.some.injEq] at e
        subst e
        obtain ⟨as, r1⟩ := rd ra rx e1
        obtain ⟨bs, r2⟩ := rd rb ry e2
        have p1 := Dp.plain _ _ (dataOf_sound S ra e1)
        have p2 := dp_tup (dataOf_sound S rb e2)
        exact ⟨fun Q' hq => SeqAt.in_tuple_data r2 r1 p2 p1 (min_dOk1 hs hu) ⟨.bl _, H, I, rfl, hq⟩, fun Q' hq => SeqAt.notIn_tuple_data r2 r1 p2 p1 (min_dOk1 hs hu) ⟨.bl _, H, I, rfl, hq⟩⟩
      · cases e
    · cases e
  have ints2 : ∀ {i j : Int}, dataOf a hp = some (.int i) → dataOf b hp = some (.int j) → x = .int i ∧ y = .int j := by
    intro i j e1 e2
    have d1 := dataOf_sound S ra e1
    have d2 := dataOf_sound S rb e2
    cases d1
    cases d2
    exact ⟨rfl, rfl⟩
  cases op with
  | Eq => exact (hEq e).1 _ (fin I q)
  | NotEq =>
    obtain ⟨k', e', rfl⟩ := Option.map_eq_some_iff.mp (show (eqM a b hp).map (!·) = some k from e)
    exact (hEq e').2 _ (fin I q)
  | Lt =>
    have e : ltM a b hp = some k := e
    unfold ltM at e
    split at e
    · rename_i d1 d2 e1 e2
      unfold ltD at e
      split at e
      · simp only [Option.some.injEq] at e
        subst e
        obtain ⟨rfl, rfl⟩ := ints2 e1 e2
        exact op_lt pins s σ H _ _ v u Q I rx ry ⟨_, _, rfl, rfl, q⟩
      · split at e
        · rename_i hs
          simp only [Option.some.injEq] at e
          subst e
          rw [Bool.and_eq_true, Bool.and_eq_true] at hs
          obtain ⟨as, r1⟩ := rd ra rx e1
          obtain ⟨bs, r2⟩ := rd rb ry e2
          exact PySem.W.lt_data r1 r2 hs.1.1 (notNone hs.2) (min_dOk (by rw [hs.1.2]; rfl) (by omega)) (fin I q)
        · cases e
    · cases e
  | Gt =>
    unfold cmpM at e
    simp only at e
    split at e
    · rename_i i j e1 e2
      simp only [Option.some.injEq] at e
      subst e
      obtain ⟨rfl, rfl⟩ := ints2 e1 e2
      exact op_gt pins s σ H _ _ v u Q I rx ry ⟨_, _, rfl, rfl, q⟩
    · rename_i d1 d2 _ e1 e2
      split at e
      · rename_i hs
        simp only [Option.some.injEq] at e
        subst e
        rw [Bool.and_eq_true, Bool.and_eq_true] at hs
        obtain ⟨as, r1⟩ := rd ra rx e1
        obtain ⟨bs, r2⟩ := rd rb ry e2
        exact PySem.W.gt_data r1 r2 hs.1.1 (notNone hs.2) (min_dOk (by rw [hs.1.2]; rfl) (by omega)) (fin I q)
      · cases e
    · cases e
  | LtE =>
    unfold cmpM at e
    simp only at e
    split at e
    · rename_i i j e1 e2
      simp only [Option.some.injEq] at e
      subst e
      obtain ⟨rfl, rfl⟩ := ints2 e1 e2
      exact op_le pins s σ H _ _ v u Q I rx ry ⟨_, _, rfl, rfl, q⟩
    · rename_i d1 d2 _ e1 e2
      split at e
      · rename_i hs
        simp only [Option.some.injEq] at e
        subst e
        rw [Bool.and_eq_true, Bool.and_eq_true] at hs
        obtain ⟨as, r1⟩ := rd ra rx e1
        obtain ⟨bs, r2⟩ := rd rb ry e2
        exact PySem.W.le_data r1 r2 hs.1.1 (notNone hs.2) (min_dOk (by rw [hs.1.2]; rfl) (by omega)) (fin I q)
      · cases e
    · cases e
  | GtE =>
    unfold cmpM at e
    simp only at e
    split at e
    · rename_i i j e1 e2
      simp only [Option.some.injEq] at e
      subst e
      obtain ⟨rfl, rfl⟩ := ints2 e1 e2
      exact op_ge pins s σ H _ _ v u Q I rx ry ⟨_, _, rfl, rfl, q⟩
    · rename_i d1 d2 _ e1 e2
      split at e
      · rename_i hs
        simp only [Option.some.injEq] at e
        subst e
        rw [Bool.and_eq_true, Bool.and_eq_true] at hs
        obtain ⟨as, r1⟩ := rd ra rx e1
        obtain ⟨bs, r2⟩ := rd rb ry e2
        exact PySem.W.ge_data r1 r2 hs.1.1 (notNone hs.2) (min_dOk (by rw [hs.1.2]; rfl) (by omega)) (fin I q)
      · cases e
    · cases e
  | In => exact (hIn e).1 Q q
  | NotIn =>
    obtain ⟨k', e', rfl⟩ := Option.map_eq_some_iff.mp (show (inM a b hp).map (!·) = some k from e)
    exact (hIn e').2 Q q
  | Is =>
    unfold cmpM at e
    simp only at e
    split at e
    · cases e
    · simp only [Option.some.injEq] at e
      subst e
      cases rb
      exact op_isN pins s σ H _ _ v u Q I rx ry ⟨rfl, by rw [← isNone_rel ra]; exact q⟩
    · cases e
  | IsNot =>
    unfold cmpM at e
    simp only at e
    split at e
    · cases e
    · simp only [Option.some.injEq] at e
      subst e
      cases rb
      exact op_notN pins s σ H _ _ v u Q I rx ry ⟨rfl, by rw [← isNone_rel ra]; exact q⟩
    · cases e

/-! ### truth, length -/
def truL (a : MV) (hp : Mh) : Option Bool := match seqOf a hp with
  | some xs => some (!xs.isEmpty)
  | none => none
def truM (a : MV) (hp : Mh) : Option Bool :=
  match a with
  | .d .none => some false
  | .d (.bool b) => some b
  | .d (.int i) => some (i != 0)
  | .d (.str x) => if x.length ≤ sizeLine then some ((x.length : Int) != 0) else none
  | a => truL a hp
def rTru (K : PySem.W.Frag) : V → Hp → (Bool → Hp → Prop) → Prop := fun x H Q => ∃ w hp a k, HSim K w H hp ∧ RepM K w a x ∧ truM a hp = some k ∧ Q k H
theorem isEmpty_rep {α β : Type} {F : α → β → Prop} {xs : List α} {ys : List β} (h : Paired F xs ys) : xs.isEmpty = ys.isEmpty := by cases h <;> rfl
theorem tru_of {H : Hp} {x : V} {Q : Bool → Hp → Prop} (h : rTru X.K x H Q) : ∃ k, TruV X.K x H k ∧ Q k H := by
  obtain ⟨w, hp, a, k, S, ra, e, q⟩ := h
  refine ⟨k, ?_, q⟩
  unfold truM at e
  split at e
  · cases e; cases ra; rfl
  · cases e; cases ra; rfl
  · cases e; cases ra; rfl
  · split at e
    · rename_i hz
      cases e; cases ra
      exact ⟨hz, rfl⟩
    · cases e
  · unfold truL at e
    split at e
    · rename_i xs e1
      cases e
      obtain ⟨p, vs, rfl, h1, h2⟩ := seqOf_sound S ra e1
      rw [isEmpty_rep h2]
      rcases h1 with h1 | h1
      · exact .inl ⟨vs, h1, rfl⟩
      · exact .inr (.inl ⟨vs, h1, rfl⟩)
    · cases e
theorem ok_tru : TruR X (rTru X.K) := fun pins s σ H x v Q I rx h => tru_ok pins s σ H x v Q I rx (tru_of h)

def lenL (a : MV) (hp : Mh) : Option R := match seqOf a hp with
  | some xs => iv xs.length
  | none => none
def lenM (as : List MV) (hp : Mh) : Option R :=
  match as with
  | [.d (.str x)] => if x.length ≤ sizeLine then iv x.length else none
  | [a] => lenL a hp
  | _ => none
theorem repMs1 {K : PySem.W.Frag} {w : Wd} {a : MV} {xs : List V} (h : RepMs K w [a] xs) : ∃ x, xs = [x] ∧ RepM K w a x := by
  cases h with
  | cons p q => cases q; exact ⟨_, rfl, p⟩
theorem repMs2 {K : PySem.W.Frag} {w : Wd} {a b : MV} {xs : List V} (h : RepMs K w [a, b] xs) : ∃ x y, xs = [x, y] ∧ RepM K w a x ∧ RepM K w b y := by
  cases h with
  | cons p q =>
    obtain ⟨y, rfl, r⟩ := repMs1 q
    exact ⟨_, _, rfl, p, r⟩
theorem ok_len : CallR X (.builtin "len") (rCallM X.K lenM) := by
  intro pins s σ H xs us Q I r h
  obtain ⟨w, hp, as, r', S, ra, e, q⟩ := h
  unfold lenM at e
  split at e
  · split at e
    · rename_i hz
      cases e
      obtain ⟨x, rfl, rx⟩ := repMs1 ra
      cases rx
      exact call_len pins s σ H _ us Q I r ⟨_, _, rfl, ⟨hz, rfl⟩, q _ _ _ (Post.refl _ _) S (.int _)⟩
    · cases e
  · unfold lenL at e
    split at e
    · rename_i ys e1
      cases e
      obtain ⟨x, rfl, rx⟩ := repMs1 ra
      obtain ⟨p, vs, rfl, h1, h2⟩ := seqOf_sound S rx e1
      have hl : ys.length = vs.length := Paired.length h2
      refine call_len pins s σ H _ us Q I r ⟨_, vs.length, rfl, ?_, q _ _ _ (Post.refl _ _) S (by rw [hl]; exact .int _)⟩
      rcases h1 with h1 | h1
      · exact .inl ⟨vs, h1, rfl⟩
      · exact .inr ⟨vs, h1, rfl⟩
    · cases e
  · cases e

/-! ### items -/
def ixL (a : MV) (i : Int) (hp : Mh) : Option R := match seqOf a hp with
  | some xs => match atI xs i with
    | some x => some (.v x)
    | none => none
  | none => none
def ixM (a b : MV) (hp : Mh) : Option R :=
  match b with
  | .d (.int i) => match a with
    | .d (.str z) => if z.length ≤ sizeLine then match atI z.cps.toList i with
        | some c => dv (.str ⟨#[c]⟩)
        | none => none
      else none
    | a => ixL a i hp
  | _ => none
theorem get_rep {α β : Type} {F : α → β → Prop} : ∀ {xs : List α} {ys : List β} {j : Nat} {x : α}, Paired F xs ys → xs[j]? = some x → ∃ y, ys[j]? = some y ∧ F x y
  | _, _, _, _, .nil, e => by simp at e
  | _, _, 0, _, .cons p _, e => by simp at e; subst e; exact ⟨_, rfl, p⟩
  | _, _, j + 1, _, .cons _ t, e => by
    obtain ⟨y, h1, h2⟩ := get_rep (j := j) t (by simpa using e)
    exact ⟨y, by simpa using h1, h2⟩
theorem atI_rep {α β : Type} {F : α → β → Prop} {xs : List α} {ys : List β} (h : Paired F xs ys) {i : Int} {x : α} (e : atI xs i = some x) : ∃ y, atI ys i = some y ∧ F x y := by
  unfold atI at e ⊢
  rw [← Paired.length h]
  cases q : ixN xs.length i with
  | none => rw [q] at e; cases e
  | some j =>
    rw [q] at e
    exact get_rep h e
theorem ok_ix : IxR X (rOp X.K ixM) := by
  intro value slice pins s σ H x y v u Q I rx ry h hs
  obtain ⟨w, hp, a, b, r, S, ra, rb, e, q⟩ := h
  unfold ixM at e
  split at e
  · split at e
    · split at e
      · rename_i hz
        split at e
        · rename_i c e1
          cases e
          cases ra
          cases rb
          exact ix_str value slice pins s σ H _ _ v u Q I rx ry ⟨_, _, _, rfl, rfl, hz, e1, q _ _ _ (Post.refl _ _) S (.str _)⟩ hs
        · cases e
      · cases e
    · unfold ixL at e
      split at e
      · rename_i xs e1
        split at e
        · rename_i z e2
          cases e
          cases rb
          obtain ⟨p, vs, rfl, h1, h2⟩ := seqOf_sound S ra e1
          obtain ⟨v', e3, h3⟩ := atI_rep h2 e2
          have q' := q _ _ v' (Post.refl _ _) S h3
          rcases h1 with h1 | h1
          · exact ix_list value slice pins s σ H _ _ v u Q I rx ry ⟨_, _, _, _, rfl, rfl, h1, e3, q'⟩ hs
          · exact ix_tup value slice pins s σ H _ _ v u Q I rx ry ⟨_, _, _, _, rfl, rfl, h1, e3, q'⟩ hs
        · cases e
      · cases e
  · cases e

/-! ### small built-ins -/
def absM (as : List MV) (_ : Mh) : Option R :=
  match as with
  | [.d (.int i)] => iv (if i < 0 then -i else i)
  | _ => none
def intM (as : List MV) (_ : Mh) : Option R :=
  match as with
  | [.d (.int i)] => iv i
  | [.d (.bool b)] => iv (if b then 1 else 0)
  | _ => none
def min2M (as : List MV) (_ : Mh) : Option R :=
  match as with
  | [.d (.int i), .d (.int j)] => iv (if j < i then j else i)
  | _ => none
def max2M (as : List MV) (_ : Mh) : Option R :=
  match as with
  | [.d (.int i), .d (.int j)] => iv (if j > i then j else i)
  | _ => none
def negM (a : MV) (_ : Mh) : Option R :=
  match a with
  | .d (.int i) => iv (-i)
  | _ => none
theorem ok_abs : CallR X (.builtin "abs") (rCallM X.K absM) := by
  intro pins s σ H xs us Q I r h
  obtain ⟨w, hp, as, r', S, ra, e, q⟩ := h
  unfold absM at e
  split at e
  · cases e
    obtain ⟨x, rfl, rx⟩ := repMs1 ra
    cases rx
    exact call_abs pins s σ H _ us Q I r ⟨_, rfl, q _ _ _ (Post.refl _ _) S (.int _)⟩
  · cases e
theorem ok_int : CallR X (.type "int") (rCallM X.K intM) := by
  intro pins s σ H xs us Q I r h
  obtain ⟨w, hp, as, r', S, ra, e, q⟩ := h
  unfold intM at e
  split at e
  · cases e
    obtain ⟨x, rfl, rx⟩ := repMs1 ra
    cases rx
    exact call_int1 pins s σ H _ us Q I r (.inl ⟨_, rfl, q _ _ _ (Post.refl _ _) S (.int _)⟩)
  · cases e
    obtain ⟨x, rfl, rx⟩ := repMs1 ra
    cases rx
    exact call_int1 pins s σ H _ us Q I r (.inr ⟨_, rfl, q _ _ _ (Post.refl _ _) S (.int _)⟩)
  · cases e
theorem ok_min2 (hc : X.calm = true) : CallR X (.builtin "min") (rCallM X.K min2M) := by
  intro pins s σ H xs us Q I r h
  obtain ⟨w, hp, as, r', S, ra, e, q⟩ := h
  unfold min2M at e
  split at e
  · cases e
    obtain ⟨x, y, rfl, rx, ry⟩ := repMs2 ra
    cases rx
    cases ry
    exact call_min2 hc pins s σ H _ us Q I r ⟨_, _, rfl, q _ _ _ (Post.refl _ _) S (.int _)⟩
  · cases e
theorem ok_max2 (hc : X.calm = true) : CallR X (.builtin "max") (rCallM X.K max2M) := by
  intro pins s σ H xs us Q I r h
  obtain ⟨w, hp, as, r', S, ra, e, q⟩ := h
  unfold max2M at e
  split at e
  · cases e
    obtain ⟨x, y, rfl, rx, ry⟩ := repMs2 ra
    cases rx
    cases ry
    exact call_max2 hc pins s σ H _ us Q I r ⟨_, _, rfl, q _ _ _ (Post.refl _ _) S (.int _)⟩
  · cases e
theorem ok_neg : UnR X (unaryOp .USub) (rUn X.K negM) := by
  intro pins s σ H x v Q I rx h
  obtain ⟨w, hp, a, r', S, ra, e, q⟩ := h
  unfold negM at e
  split at e
  · cases e
    cases ra
    exact un_neg pins s σ H _ v Q I rx ⟨_, rfl, q _ _ _ (Post.refl _ _) S (.int _)⟩
  · cases e
/-- list(x) -/
def listM (as : List MV) (hp : Mh) : Option R :=
  match as with
  | [a] => match seqOf a hp with
    | some xs => some (.l xs)
    | none => none
  | _ => none
theorem ok_list : CallR X (.type "list") (rCallM X.K listM) := by
  intro pins s σ H xs us Q I r h
  obtain ⟨w, hp, as, r', S, ra, e, q⟩ := h
  unfold listM at e
  split at e
  · split at e
    · rename_i ys e1
      cases e
      obtain ⟨x, rfl, rx⟩ := repMs1 ra
      obtain ⟨p, vs, rfl, h1, h2⟩ := seqOf_sound S rx e1
      exact call_list_of pins s σ H _ us Q I r ⟨_, _, rfl, h1, fun l hl => fin_lst S h2 hl q⟩
    · cases e
  · cases e
/-- tuple(x) -/
def tupL (a : MV) (hp : Mh) : Option R := match lstOf a hp with
  | some xs => match datas xs with
    | some ds => dv (.tuple ds)
    | none => none
  | none => none
def tupleM (as : List MV) (hp : Mh) : Option R :=
  match as with
  | [.d (.tuple xs)] => dv (.tuple xs)
  | [a] => tupL a hp
  | _ => none
theorem ok_tuple : CallR X (.type "tuple") (rCallM X.K tupleM) := by
  intro pins s σ H xs us Q I r h
  obtain ⟨w, hp, as, r', S, ra, e, q⟩ := h
  unfold tupleM at e
  split at e
  · cases e
    obtain ⟨x, rfl, rx⟩ := repMs1 ra
    have rx' := rx
    cases rx with
    | tup hs ha => exact call_tuple_of pins s σ H _ us Q I r ⟨_, _, rfl, .inr ⟨sqT_same S.sub hs, q _ _ _ (Post.refl _ _) S rx'⟩⟩
  · unfold tupL at e
    split at e
    · rename_i ys e1
      split at e
      · rename_i ds e2
        cases e
        obtain ⟨x, rfl, rx⟩ := repMs1 ra
        obtain ⟨p, vs, rfl, h1, h2⟩ := lstOf_sound S rx e1
        exact call_tuple_of pins s σ H _ us Q I r ⟨_, _, rfl, .inl ⟨h1, fun l hl => fin_tup S (dpAll_of_repMs h2 e2) hl q⟩⟩
      · cases e
    · cases e
  · cases e
end
end L2.MP
/-! MiniPy D: list * int, slices; what is evaluated, put together. -/
namespace L2.MP
open PySem PySem.Spec PyProof.Rows

theorem int_rmul_listW (a : Int) (t : Tok) (l : Addr) (items : Array Value) (n : Nat) (dd : Option Addr) (sl : Array (Option Value)) :
    Meets (Builtin.«int.__rmul__» ⟨[.int a t, .ref l], []⟩) (fun _ R s => s.heap.get? l = some { cls := .type "list", dict := dd, data := .seq items n, slots := sl } ∧ R (.ok (.ret Value.notImplemented)) s) :=
  .of_wp fun prog w A R s h => by obtain ⟨hp, g, d, tk, os⟩ := s; obtain ⟨hl, h⟩ := h; wp_walk using wpAny_loadPart' hl; exact ⟨_, rfl, h⟩
theorem list_mulW (l : Addr) (items : Array Value) (n : Nat) (dd : Option Addr) (sl : Array (Option Value)) (x : Int) (u : Tok) (hc0 : ¬(!Builtin.List.listFitsIndex x) = true) (hc1 : ¬items.size * x.toNat > (2 ^ 63 - 1) / 8) (hc2 : ¬Builtin.List.listTooLong (items.size * x.toNat) = true) :
    Meets (Builtin.«list.__mul__» ⟨[.ref l, .int x u], []⟩) (fun _ R s => s.heap.get? l = some { cls := .type "list", dict := dd, data := .seq items n, slots := sl } ∧ R (.ok (.ret (Value.ref s.heap.objs.size))) { s with heap := s.heap.push { cls := Value.type "list", data := Data.seq (List.foldl (fun x1 x2 => x1 ++ x2) #[] (List.replicate (if items.isEmpty = true then 0 else x.toNat) items)) }, toks := s.toks }) :=
  .of_wp fun prog w A R s h => by
    obtain ⟨hp, g, d, tk, os⟩ := s; obtain ⟨hl, h⟩ := h
    have f1 := AutoSeq1.idx_int
    have hsz := PySem.AutoListH.joined_fits hc2
    wp_walk using wpAny_loadPart' hl; refine wpAny_ite_false (decide_eq_false (Nat.not_lt.mpr hsz)) ?_; wp_walk using wpAny_loadPart' hl; exact ⟨_, rfl, h⟩

section
variable {X : Cx}
def rRepL (K : PySem.W.Frag) : R2 := fun x y H Q => ∃ l k xs, x = .ref l ∧ y = .int k ∧ SqL K H l xs ∧ -(2 ^ 63) ≤ k ∧ k < 2 ^ 63 ∧ xs.length * k.toNat ≤ sizeLine ∧
  ∀ p, H p = none → Q (.ref p) (upd H p (.lst (List.replicate k.toNat xs).flatten))
theorem op_repL : OpR X (binaryOp .Mult) (rRepL X.K) := by
  intro pins s σ H x y v u Q I rx ry h
  obtain ⟨l, k, xs, rfl, rfl, hH, h1, h2, hz, q⟩ := h
  cases rx
  obtain ⟨t, rfl⟩ := ry
  obtain ⟨its, n, dd, sl, r, hl, _, e⟩ := isL_of (K := X.K) I hH
  have hlen : its.toArray.size * k.toNat ≤ sizeLine := by rw [List.size_toArray, ← hl]; exact hz
  have hcap : ¬ its.toArray.size * k.toNat > (2 ^ 63 - 1) / 8 := by
    have : (sizeLine : Nat) ≤ (2 ^ 63 - 1) / 8 := by decide
    omega
  have hfit : ¬ (!Builtin.List.listFitsIndex k) = true := by
    rw [fitsIndex_both h1 h2]
    exact Bool.false_ne_true
  have hlong : ¬ Builtin.List.listTooLong (its.toArray.size * k.toNat) = true := by
    rw [notLongL hlen]
    exact Bool.false_ne_true
  have hnew : List.foldl (fun x1 x2 => x1 ++ x2) #[] (List.replicate (if its.toArray.isEmpty = true then 0 else k.toNat) its.toArray) = (List.replicate k.toNat its).flatten.toArray := by
    rw [size_rep]
    cases its with
    | nil => simp
    | cons a r' => rw [if_neg (by simp)]
  refine wpAny_binaryOp_repeat_ref (T := "list") (U := "int") (by decide) ⟨_, e, rfl⟩ (fun s' => typeIs_int s' k t) noFill_list_mul F.fills_int_mul F.slot_int_rmul repeat_list F.slot_int_index.lookup
    (call_meets F.slot_int_rmul (typeIs_int s k t) F.entry_int_rmul (F.args_int_rmul_2 _ _) (int_rmul_listW k t l its.toArray n dd sl)
      ⟨e, rfl, ⟨_, e, rfl⟩, call_meets F.slot_list_mul ⟨_, e, rfl⟩ F.entry_list_mul (F.args_list_mul_2 _ _) (list_mulW l its.toArray n dd sl k t hfit hcap hlong) ⟨e, ?_⟩⟩)
  rw [hnew]
  exact ⟨.ref _, _, I.lnew (t' := s.toks) (r.rep k.toNat) (by rw [PyProof.Rows.lm_len_rep_flat, Nat.mul_comm]; exact hz), rfl, q _ I.fresh⟩

theorem dpAll_rep {K : PySem.W.Frag} {F : Hp} {ds : List PyData} {vs : List V} (h : DpAll K F vs ds) : ∀ k : Nat, DpAll K F (List.replicate k vs).flatten (List.replicate k ds).flatten
  | 0 => .nil
  | k + 1 => by
    rw [List.replicate_succ, List.replicate_succ, List.flatten_cons, List.flatten_cons]
    exact dpAll_append h (dpAll_rep h k)
theorem repMs_rep {K : PySem.W.Frag} {w : Wd} {ds : List MV} {vs : List V} (h : RepMs K w ds vs) : ∀ k : Nat, RepMs K w (List.replicate k ds).flatten (List.replicate k vs).flatten
  | 0 => .nil
  | k + 1 => by
    rw [List.replicate_succ, List.replicate_succ, List.flatten_cons, List.flatten_cons]
    exact repMs_append h (repMs_rep h k)
theorem ok_mul : OpR X (binaryOp .Mult) (rOp X.K opMul) := by
  intro pins s σ H x y v u Q I rx ry h
  obtain ⟨w, hp, a, b, r, S, ra, rb, e, q⟩ := h
  unfold opMul at e
  split at e
  · split at e
    · rename_i hz
      cases e
      cases ra
      cases rb
      obtain ⟨t, rfl⟩ := rx
      obtain ⟨t', rfl⟩ := ry
      exact mul_int ⟨.int _, H, I.tok _, ⟨_, rfl⟩, q _ _ _ (Post.refl _ _) S (.int _)⟩ (mulOk_ok hz)
    · cases e
  · split at e
    · rename_i hz
      cases e
      cases rb
      cases ra with
      | tup hs ha =>
        have hl := dpAll_length ha
        refine op_repT pins s σ H _ _ v u Q I rx ry ⟨_, _, _, rfl, rfl, sqT_same S.sub hs, fun z => ?_, hz.2.1, hz.2.2.1, by omega, fun p hn => fin_tup S (dpAll_rep ha _) hn q⟩
        subst z
        cases ha
        exact hz.1 rfl
    · cases e
  · unfold mulL at e
    split at e
    · rename_i xs e1
      split at e
      · rename_i hz
        cases e
        cases rb
        obtain ⟨l, vs, rfl, h1, r1⟩ := lstOf_sound S ra e1
        exact op_repL pins s σ H _ _ v u Q I rx ry ⟨_, _, _, rfl, rfl, h1, hz.1, hz.2.1, by rw [← Paired.length r1]; exact hz.2.2, fun p hn => fin_lst S (repMs_rep r1 _) hn q⟩
      · cases e
    · cases e
  · cases e

/-! ### slices of lists -/
def cutM {α : Type} (xs : List α) (lo hi : Option Int) : List α := (xs.drop (HT.sIx xs.length 0 lo)).take (HT.sIx xs.length xs.length hi - HT.sIx xs.length 0 lo)
def slL (a : MV) (lo hi : Option Int) (hp : Mh) : Option R := match lstOf a hp with
  | some xs => some (.l (cutM xs lo hi))
  | none => none
def slM (a : MV) (lo hi : Option Int) (hp : Mh) : Option R :=
  match a with
  | .d (.tuple ds) => if HT.sIx ds.length 0 lo = 0 ∧ HT.sIx ds.length ds.length hi = ds.length then none else dv (.tuple (cutM ds lo hi))
  | a => slL a lo hi hp
theorem dpAll_take {K : PySem.W.Frag} {F : Hp} : ∀ {ds : List PyData} {vs : List V} (n : Nat), DpAll K F vs ds → DpAll K F (vs.take n) (ds.take n)
  | _, _, 0, _ => .nil
  | [], _, _ + 1, h => by cases h; exact .nil
  | _ :: _, _, n + 1, h => by cases h with | cons a t => exact .cons a (dpAll_take n t)
theorem dpAll_drop {K : PySem.W.Frag} {F : Hp} : ∀ {ds : List PyData} {vs : List V} (n : Nat), DpAll K F vs ds → DpAll K F (vs.drop n) (ds.drop n)
  | _, _, 0, h => h
  | [], _, _ + 1, h => by cases h; exact .nil
  | _ :: _, _, n + 1, h => by cases h with | cons a t => exact dpAll_drop n t
theorem repMs_take {K : PySem.W.Frag} {w : Wd} : ∀ {ds : List MV} {vs : List V} (n : Nat), RepMs K w ds vs → RepMs K w (ds.take n) (vs.take n)
  | _, _, 0, _ => .nil
  | _, _, _ + 1, .nil => .nil
  | _, _, n + 1, .cons a t => .cons a (repMs_take n t)
theorem repMs_drop {K : PySem.W.Frag} {w : Wd} : ∀ {ds : List MV} {vs : List V} (n : Nat), RepMs K w ds vs → RepMs K w (ds.drop n) (vs.drop n)
  | _, _, 0, h => h
  | _, _, _ + 1, .nil => .nil
  | _, _, n + 1, .cons _ t => repMs_drop n t
def rSl (K : PySem.W.Frag) : V → Option Int → Option Int → Hp → VK → Prop := fun x lo hi H Q => ∃ w hp a r, HSim K w H hp ∧ RepM K w a x ∧ slM a lo hi hp = some r ∧
  ∀ w' H' v, Post w H w' H' → HSim K w' H' hp → RepR K w' H H' r v → Q v H'
theorem ok_sl : SlR X (rSl X.K) := by
  intro pins s σ H x v vl vu lo hi sl Q I rx hs pl pu h
  obtain ⟨w, hp, a, r, S, ra, e, q⟩ := h
  unfold slM at e
  split at e
  · split at e
    · cases e
    · rename_i hw
      cases e
      cases ra with
      | tup ht ha =>
        have hl := dpAll_length ha
        refine sl_tup pins s σ H _ v vl vu lo hi sl Q I rx hs pl pu ⟨_, _, rfl, sqT_same S.sub ht, by rw [hl]; exact hw, fun p hn => ?_⟩
        refine fin_tup S ?_ hn q
        unfold cutV cutM
        rw [hl]
        exact dpAll_take _ (dpAll_drop _ ha)
  · unfold slL at e
    split at e
    · rename_i xs e1
      cases e
      obtain ⟨l, vs, rfl, h1, r1⟩ := lstOf_sound S ra e1
      refine sl_list pins s σ H _ v vl vu lo hi sl Q I rx hs pl pu ⟨_, _, rfl, h1, fun p hn => fin_lst S ?_ hn q⟩
      unfold cutV cutM
      rw [← Paired.length r1]
      exact repMs_take _ (repMs_drop _ r1)
    · cases e
end
end L2.MP
/-! MiniPy E: evaluators of expressions. -/
namespace L2.MP
open PySem PySem.Spec PyProof.Rows

/-! ### freezing -/
def fzM (x : MV) (hp : Mh) : Option (PyData × Mh) :=
  match x with
  | .d x => some (x, hp)
  | .c n => match hp[n]? with
    | some (.lst xs) => match datas xs with
      | some ds => some (.list ds, hp.set n (.frz (.list ds)))
      | none => none
    | some (.frz x) => some (x, hp)
    | _ => none
  | .k _ => none

section
variable {K : PySem.W.Frag} {w : Wd} {H : Hp} {hp : Mh}
theorem HSim.freeze (S : HSim K w H hp) {n : Nat} {xs : List MV} {ds : List PyData} (hn : hp[n]? = some (.lst xs)) (hd : datas xs = some ds) {a : Addr} (ha : w.mu[n]? = some a) :
    ∃ w', Post w H w' H ∧ HSim K w' H (hp.set n (.frz (.list ds))) ∧ Dp K w'.F (.ref a) (.list ds) := by
  obtain ⟨b, h1, h2⟩ := S.cell n _ hn
  rw [ha] at h1
  cases h1
  obtain ⟨q1, vs, q2, q3, q4⟩ := h2
  have l : Le w { w with F := upd w.F a (.lst vs) } := ⟨same_upd q1, [], by simp⟩
  have hlen : n < hp.length := (List.getElem?_eq_some_iff.mp hn).1
  have dp : Dp K (upd w.F a (.lst vs)) (.ref a) (.list ds) := .lst (.of upd_same) (DpAll.same l.F _ _ (dpAll_of_repMs q3 hd))
  refine ⟨{ w with F := upd w.F a (.lst vs) }, ⟨l, fun _ h => .inl h, fun c hc => ?_, fun _ _ h _ => h⟩, ⟨fun c u e => ?_, by simp [S.len], S.nd, S.trk, fun m c q => ?_⟩, dp⟩
  · by_cases hb : c = a
    · subst hb; exact .inr (.inl (List.mem_of_getElem? ha))
    · have hc' : upd w.F a (.lst vs) c ≠ none := hc
      rw [upd_ne hb] at hc'
      exact .inl hc'
  · by_cases hb : c = a
    · subst hb
      have e' : upd w.F c (.lst vs) c = some u := e
      rw [upd_same] at e'
      cases e'
      exact q2
    · have e' : upd w.F a (.lst vs) c = some u := e
      rw [upd_ne hb] at e'
      exact S.sub c u e'
  · by_cases hm : m = n
    · subst hm
      rw [List.getElem?_set_self hlen] at q
      cases q
      exact ⟨a, ha, dp⟩
    · rw [List.getElem?_set_ne (Ne.symm hm)] at q
      obtain ⟨b, h1, h2⟩ := S.cell m c q
      refine ⟨b, h1, ?_⟩
      have hb : b ≠ a := fun z => hm (S.inj h1 (z ▸ ha))
      cases c with
      | lst ys =>
        obtain ⟨p1, us, p2, p3, p4⟩ := h2
        refine ⟨?_, us, p2, RepMs.le l p3, p4⟩
        show upd w.F a (.lst vs) b = none
        rw [upd_ne hb]
        exact p1
      | dct _ => exact h2
      | frz x => exact Dp.same l.F x _ h2
theorem fzM_ok (S : HSim K w H hp) {x : MV} {v : V} (r : RepM K w x v) {d : PyData} {hp' : Mh} (e : fzM x hp = some (d, hp')) :
    ∃ w', Post w H w' H ∧ HSim K w' H hp' ∧ Dp K w'.F v d := by
  cases x with
  | d y =>
    simp only [fzM, Option.some.injEq, Prod.mk.injEq] at e
    obtain ⟨rfl, rfl⟩ := e
    exact ⟨w, Post.refl _ _, S, r⟩
  | c n =>
    obtain ⟨a, h1, rfl⟩ := r
    have e : (match hp[n]? with | some (.lst xs) => (match datas xs with | some ds => some (PyData.list ds, hp.set n (.frz (.list ds))) | none => none) | some (.frz x) => some (x, hp) | _ => none) = some (d, hp') := e
    split at e
    · rename_i xs e1
      split at e
      · rename_i ds e2
        cases e
        exact S.freeze e1 e2 h1
      · cases e
    · rename_i y e1
      cases e
      obtain ⟨b, h2, h3⟩ := S.cell n _ e1
      rw [h1] at h2
      cases h2
      exact ⟨w, Post.refl _ _, S, h3⟩
    · cases e
  | k _ => exact r.elim
end

/-! ### the evaluators -/
def evVar (i : Nat) : Ev := fun env hp => match env[i]? with
  | some (some x) => some (x, hp)
  | _ => none
def evK (x : MV) : Ev := fun _ hp => some (x, hp)
def evAll : List Ev → Evs
  | [] => fun _ hp => some ([], hp)
  | f :: r => fun env hp => (f env hp).bind fun p => (evAll r env p.2).bind fun q => some (p.1 :: q.1, q.2)
def evFz (f : Ev) : Ev := fun env hp => (f env hp).bind fun p => (fzM p.1 p.2).bind fun q => some (.d q.1, q.2)
/-- a fresh list stays -/
def evSt (f : Er) : Ev := fun env hp => (f env hp).bind fun p => match p.1 with
  | .v x => some (x, p.2)
  | .l xs => (datas xs).bind fun ds => some (.d (.list ds), p.2)
/-- a fresh list may change -/
def evMk (f : Er) : Ev := fun env hp => (f env hp).bind fun p => match p.1 with
  | .v _ => none
  | .l xs => some (.c p.2.length, p.2 ++ [.lst xs])
def evBin (op : MV → MV → Mh → Option R) (f g : Ev) : Er := fun env hp => (f env hp).bind fun p => (g env p.2).bind fun q => (op p.1 q.1 q.2).bind fun r => some (r, q.2)
def evUn (op : MV → Mh → Option R) (f : Ev) : Er := fun env hp => (f env hp).bind fun p => (op p.1 p.2).bind fun r => some (r, p.2)
def evBlt (op : List MV → Mh → Option R) (fs : List Ev) : Er := fun env hp => (evAll fs env hp).bind fun p => (op p.1 p.2).bind fun r => some (r, p.2)
def evCmp (op : MV → MV → Mh → Option Bool) (f g : Ev) : Et := fun env hp => (f env hp).bind fun p => (g env p.2).bind fun q => (op p.1 q.1 q.2).bind fun b => some (b, q.2)
def evCmp2 (op op' : MV → MV → Mh → Option Bool) (f g h : Ev) : Et := fun env hp => (f env hp).bind fun p => (g env p.2).bind fun q => (op p.1 q.1 q.2).bind fun b =>
  if b = true then (h env q.2).bind fun r => (op' q.1 r.1 r.2).bind fun c => some (c, r.2) else some (false, q.2)
def evOfT (t : Et) : Ev := fun env hp => (t env hp).bind fun p => some (.d (.bool p.1), p.2)
def etTru (f : Ev) : Et := fun env hp => (f env hp).bind fun p => (truM p.1 p.2).bind fun b => some (b, p.2)
def etNot (t : Et) : Et := fun env hp => (t env hp).bind fun p => some (!p.1, p.2)
def etAnd (t u : Et) : Et := fun env hp => (t env hp).bind fun p => if p.1 = true then u env p.2 else some (false, p.2)
def etOr (t u : Et) : Et := fun env hp => (t env hp).bind fun p => if p.1 = true then some (true, p.2) else u env p.2
def evIf (t : Et) (f g : Ev) : Ev := fun env hp => (t env hp).bind fun p => if p.1 = true then f env p.2 else g env p.2
/-- x and y, x or y as values -/
def evAnd (f g : Ev) : Ev := fun env hp => (f env hp).bind fun p => (truM p.1 p.2).bind fun b => if b = true then g env p.2 else some p
def evOr (f g : Ev) : Ev := fun env hp => (f env hp).bind fun p => (truM p.1 p.2).bind fun b => if b = true then some p else g env p.2
def evTup (fs : List Ev) : Ev := fun env hp => (evAll fs env hp).bind fun p => (datas p.1).bind fun ds => if ds.length ≤ sizeLine then some (.d (.tuple ds), p.2) else none
def evLst (fs : List Ev) : Er := fun env hp => (evAll fs env hp).bind fun p => if p.1.length ≤ sizeLine then some (.l p.1, p.2) else none
def evOpt (f : Option Ev) : Me → Mh → Option (Option Int × Mh) := fun env hp => match f with
  | none => some (none, hp)
  | some f => (f env hp).bind fun p => match p.1 with
    | .d (.int i) => some (some i, p.2)
    | _ => none
def evSl (f : Ev) (lo hi : Option Ev) : Er := fun env hp => (f env hp).bind fun p => (evOpt lo env p.2).bind fun l => (evOpt hi env l.2).bind fun h => (slM p.1 l.1 h.1 h.2).bind fun r => some (r, h.2)
def evCall (φ : List MV → Mh → Option (MV × Mh)) (fs : List Ev) : Ev := fun env hp => (evAll fs env hp).bind fun p => φ p.1 p.2

section
variable {X : Cx} {e : Expr} {pos : Pos} {f g h : Ev} {a b c : Expr}

theorem tG_mono {K : PySem.W.Frag} {α β : Type} {Rep : Wd → Hp → Hp → α → β → Prop} {f : Me → Mh → Option (α × Mh)} {σ : St} {H : Hp} {Q Q' : β → Hp → Prop} (h : tG K Rep f σ H Q) (k : ∀ b H', Q b H' → Q' b H') : tG K Rep f σ H Q' := by
  obtain ⟨w, env, hp, x, hp', S, E, e, q⟩ := h
  exact ⟨w, env, hp, x, hp', S, E, e, fun w' H' b P S' r => k _ _ (q w' H' b P S' r)⟩

theorem pe_fz (h : PE X e (tE X.K f)) : PE X e (tE X.K (evFz f)) := PE.wk h fun σ H Q ⟨w, env, hp, x, hp', S, E, q0, q⟩ => by
  obtain ⟨p, e1, e2⟩ := Option.bind_eq_some_iff.mp q0
  obtain ⟨r, e3, e4⟩ := Option.bind_eq_some_iff.mp e2
  cases e4
  refine ⟨w, env, hp, p.1, p.2, S, E, e1, fun w1 H1 v P1 S1 R1 => ?_⟩
  obtain ⟨w2, P2, S2, D2⟩ := fzM_ok S1 R1 e3
  exact q w2 H1 v (P1.trans P2) S2 D2
theorem pe_st {f : Er} (h : PE X e (tR X.K f)) : PE X e (tE X.K (evSt f)) := PE.wk h fun σ H Q ⟨w, env, hp, x, hp', S, E, q0, q⟩ => by
  obtain ⟨⟨r, hp1⟩, e1, e2⟩ := Option.bind_eq_some_iff.mp q0
  refine ⟨w, env, hp, r, hp1, S, E, e1, fun w1 H1 v P1 S1 R1 => ?_⟩
  cases r with
  | v y =>
    simp only [Option.some.injEq, Prod.mk.injEq] at e2
    obtain ⟨rfl, rfl⟩ := e2
    exact q w1 H1 v P1 S1 R1
  | l xs =>
    obtain ⟨ds, e3, e4⟩ := Option.bind_eq_some_iff.mp e2
    cases e4
    obtain ⟨p, vs, rfl, hn, hF, hm, hH, hr⟩ := R1
    obtain ⟨S2, l⟩ := S1.put hH hF hm
    refine q _ H1 _ ⟨P1.le.trans l, P1.new, fun b hb => ?_, P1.fr⟩ S2 (.lst (.of upd_same) (DpAll.same l.F _ _ (dpAll_of_repMs hr e3)))
    by_cases hbp : b = p
    · subst hbp; exact .inr (.inr hn)
    · have hb' : upd w1.F p (.lst vs) b ≠ none := hb
      rw [upd_ne hbp] at hb'
      exact P1.newF b hb'
theorem pe_mk {f : Er} (h : PE X e (tR X.K f)) : PE X e (tE X.K (evMk f)) := PE.wk h fun σ H Q ⟨w, env, hp, x, hp', S, E, q0, q⟩ => by
  obtain ⟨⟨r, hp1⟩, e1, e2⟩ := Option.bind_eq_some_iff.mp q0
  refine ⟨w, env, hp, r, hp1, S, E, e1, fun w1 H1 v P1 S1 R1 => ?_⟩
  cases r with
  | v y => cases e2
  | l xs =>
    simp only [Option.some.injEq, Prod.mk.injEq] at e2
    obtain ⟨rfl, rfl⟩ := e2
    obtain ⟨p, vs, rfl, hn, hF, hm, hH, hr⟩ := R1
    obtain ⟨S2, l⟩ := S1.alloc hH hF hm hr
    refine q _ H1 _ ⟨P1.le.trans l, fun b hb => ?_, P1.newF, P1.fr⟩ S2 ⟨p, ?_, rfl⟩
    · rcases List.mem_append.mp hb with hb | hb
      · exact P1.new b hb
      · have : b = p := by simpa using hb
        subst this
        exact .inr hn
    · show (w1.mu ++ [p])[hp1.length]? = some p
      rw [← S1.len, List.getElem?_append_right (Nat.le_refl _)]
      simp
theorem pe_bin {op : Operator} {o : MV → MV → Mh → Option R} (ho : OpR X (binaryOp op) (rOp X.K o)) (ha : PE X a (tE X.K f)) (hb : PE X b (tE X.K g)) : PE X (.BinOp a op b pos) (tR X.K (evBin o f g)) :=
  PE.wk (pe_op ho ha hb) fun σ H Q ⟨w, env, hp, x, hp', S, E, q0, q⟩ => by
    obtain ⟨p, e1, e2⟩ := Option.bind_eq_some_iff.mp q0
    obtain ⟨p2, e3, e4⟩ := Option.bind_eq_some_iff.mp e2
    obtain ⟨r, e5, e6⟩ := Option.bind_eq_some_iff.mp e4
    cases e6
    refine ⟨w, env, hp, p.1, p.2, S, E, e1, fun w1 H1 v1 P1 S1 R1 => ⟨w1, env, p.2, p2.1, p2.2, S1, E.le P1.le, e3, fun w2 H2 v2 P2 S2 R2 => ⟨w2, p2.2, p.1, p2.1, x, S2, R1.le P2.le, R2, e5, fun w3 H3 v P3 S3 R3 => ?_⟩⟩⟩
    exact q w3 H3 v (P1.trans (P2.trans P3)) S3 (R3.back (P1.trans P2) P3.le)
theorem pe_unM {op : UnaryOp} {o : MV → Mh → Option R} (ho : UnR X (unaryOp op) (rUn X.K o)) (ha : PE X a (tE X.K f)) : PE X (.UnaryOp op a pos) (tR X.K (evUn o f)) :=
  PE.wk (pe_un ho ha) fun σ H Q ⟨w, env, hp, x, hp', S, E, q0, q⟩ => by
    obtain ⟨p, e1, e2⟩ := Option.bind_eq_some_iff.mp q0
    obtain ⟨r, e5, e6⟩ := Option.bind_eq_some_iff.mp e2
    cases e6
    exact ⟨w, env, hp, p.1, p.2, S, E, e1, fun w1 H1 v1 P1 S1 R1 => ⟨w1, p.2, p.1, x, S1, R1, e5, fun w3 H3 v P3 S3 R3 => q w3 H3 v (P1.trans P3) S3 (R3.back P1 P3.le)⟩⟩
theorem pe_ixM (ha : PE X a (tE X.K f)) (hb : PE X b (tE X.K g)) (hs : PlainIx b) : PE X (.Subscript a b pos) (tR X.K (evBin ixM f g)) :=
  PE.wk (pe_ix ok_ix ha hb hs) fun σ H Q ⟨w, env, hp, x, hp', S, E, q0, q⟩ => by
    obtain ⟨p, e1, e2⟩ := Option.bind_eq_some_iff.mp q0
    obtain ⟨p2, e3, e4⟩ := Option.bind_eq_some_iff.mp e2
    obtain ⟨r, e5, e6⟩ := Option.bind_eq_some_iff.mp e4
    cases e6
    refine ⟨w, env, hp, p.1, p.2, S, E, e1, fun w1 H1 v1 P1 S1 R1 => ⟨w1, env, p.2, p2.1, p2.2, S1, E.le P1.le, e3, fun w2 H2 v2 P2 S2 R2 => ⟨w2, p2.2, p.1, p2.1, x, S2, R1.le P2.le, R2, e5, fun w3 H3 v P3 S3 R3 => ?_⟩⟩⟩
    exact q w3 H3 v (P1.trans (P2.trans P3)) S3 (R3.back (P1.trans P2) P3.le)
/-- argument lists -/
theorem pa_all {es : List Expr} : ∀ {fs : List Ev}, Paired (fun e f => PE X e (tE X.K f) ∧ ∀ es, starEach (e :: es) X.env = (false, eval e X.env) :: starEach es X.env) es fs → PA X es (tAs X.K (evAll fs))
  | _, .nil => PA.wk pa_nil fun σ H Q ⟨w, env, hp, x, hp', S, E, q0, q⟩ => by
    cases q0
    exact q w H [] (Post.refl _ _) S .nil
  | _, .cons h t => PA.wk (pa_cons h.1 (pa_all t) (h.2 _)) fun σ H Q ⟨w, env, hp, x, hp', S, E, q0, q⟩ => by
    obtain ⟨p, e1, e2⟩ := Option.bind_eq_some_iff.mp q0
    obtain ⟨p2, e3, e4⟩ := Option.bind_eq_some_iff.mp e2
    cases e4
    exact ⟨w, env, hp, p.1, p.2, S, E, e1, fun w1 H1 v1 P1 S1 R1 => ⟨w1, env, p.2, p2.1, p2.2, S1, E.le P1.le, e3, fun w2 H2 vs P2 S2 R2 => q w2 H2 _ (P1.trans P2) S2 (.cons (R1.le P2.le) R2)⟩⟩
theorem pe_tupM {es : List Expr} {fs : List Ev} {k : Nat} (h : PA X es (tAs X.K (evAll fs))) : PE X (.Tuple es k pos) (tE X.K (evTup fs)) :=
  PE.wk (pe_tup h) fun σ H Q ⟨w, env, hp, x, hp', S, E, q0, q⟩ => by
    obtain ⟨p, e1, e2⟩ := Option.bind_eq_some_iff.mp q0
    obtain ⟨ds, e3, e4⟩ := Option.bind_eq_some_iff.mp e2
    split at e4
    · rename_i hz
      cases e4
      refine ⟨w, env, hp, p.1, p.2, S, E, e1, fun w1 H1 vs P1 S1 R1 => ?_⟩
      have D := dpAll_of_repMs R1 e3
      exact ⟨by rw [dpAll_length D]; exact hz, fun a hn => fin_tup S1 D hn fun w' H' v P' S' R' => q w' H' v (P1.trans P') S' R'⟩
    · cases e4
theorem pe_lstM {es : List Expr} {fs : List Ev} (h : PA X es (tAs X.K (evAll fs))) : PE X (.List es pos) (tR X.K (evLst fs)) :=
  PE.wk (pe_lst h) fun σ H Q ⟨w, env, hp, x, hp', S, E, q0, q⟩ => by
    obtain ⟨p, e1, e2⟩ := Option.bind_eq_some_iff.mp q0
    split at e2
    · rename_i hz
      cases e2
      refine ⟨w, env, hp, p.1, p.2, S, E, e1, fun w1 H1 vs P1 S1 R1 => ?_⟩
      exact ⟨by rw [← Paired.length R1]; exact hz, fun a hn => fin_lst S1 R1 hn fun w' H' v P' S' R' => q w' H' v (P1.trans P') S' (R'.back P1 P'.le)⟩
    · cases e2
theorem pe_varM {i : Nat} {x : Str} (hN : X.N[i]? = some x) (hv : Vis X.env.scope x) (hd : (x == ("__debug__" : Str)) = false) (hcd : (x == ("__classdict__" : Str)) = false) : PE X (.Name x pos) (tE X.K (evVar i)) :=
  PE.wk (pe_var hN hv hd hcd) fun σ H Q ⟨w, env, hp, x, hp', S, E, q0, q⟩ => by
    unfold evVar at q0
    split at q0
    · rename_i y e1
      cases q0
      obtain ⟨v, h1, h2⟩ := E.get i _ e1
      exact ⟨v, h1, q w H v (Post.refl _ _) S h2⟩
    · cases q0
theorem pe_kM {x : MV} {v : V} (h : PE X e (tC v)) (r : ∀ w, RepM X.K w x v) : PE X e (tE X.K (evK x)) :=
  PE.wk h fun σ H Q ⟨w, env, hp, x, hp', S, E, q0, q⟩ => by
    cases q0
    exact q w H v (Post.refl _ _) S (r w)
theorem pe_cmpM {op : CmpOp} {o : MV → MV → Mh → Option Bool} (ho : OpR X (compareOp op) (rCmp X.K o)) (ha : PE X a (tE X.K f)) (hb : PE X b (tE X.K g)) (hm : behindInMarks op b = false) :
    PE X (.Compare a [op] [b] pos) (tE X.K (evOfT (evCmp o f g))) :=
  PE.wk (pe_cmpR ho ha hb hm) fun σ H Q ⟨w, env, hp, x, hp', S, E, q0, q⟩ => by
    obtain ⟨p0, z0, e0⟩ := Option.bind_eq_some_iff.mp q0
    cases e0
    obtain ⟨p, e1, e2⟩ := Option.bind_eq_some_iff.mp z0
    obtain ⟨p2, e3, e4⟩ := Option.bind_eq_some_iff.mp e2
    obtain ⟨r, e5, e6⟩ := Option.bind_eq_some_iff.mp e4
    cases e6
    exact ⟨w, env, hp, p.1, p.2, S, E, e1, fun w1 H1 v1 P1 S1 R1 => ⟨w1, env, p.2, p2.1, p2.2, S1, E.le P1.le, e3, fun w2 H2 v2 P2 S2 R2 => ⟨w2, p2.2, p.1, p2.1, r, S2, R1.le P2.le, R2, e5, q w2 H2 _ (P1.trans P2) S2 (.bl _)⟩⟩⟩
theorem pt_cmpM {op : CmpOp} {o : MV → MV → Mh → Option Bool} (ho : OpR X (compareOp op) (rCmp X.K o)) (ha : PE X a (tE X.K f)) (hb : PE X b (tE X.K g)) (hm : behindInMarks op b = false) :
    PT X (.Compare a [op] [b] pos) (tB X.K (evCmp o f g)) :=
  PT.wk (pt_cmpR ho ha hb hm) fun σ H Q ⟨w, env, hp, x, hp', S, E, q0, q⟩ => by
    obtain ⟨p, e1, e2⟩ := Option.bind_eq_some_iff.mp q0
    obtain ⟨p2, e3, e4⟩ := Option.bind_eq_some_iff.mp e2
    obtain ⟨r, e5, e6⟩ := Option.bind_eq_some_iff.mp e4
    cases e6
    exact ⟨w, env, hp, p.1, p.2, S, E, e1, fun w1 H1 v1 P1 S1 R1 => ⟨w1, env, p.2, p2.1, p2.2, S1, E.le P1.le, e3, fun w2 H2 v2 P2 S2 R2 => ⟨w2, p2.2, p.1, p2.1, x, S2, R1.le P2.le, R2, e5, x, rfl, q w2 H2 _ (P1.trans P2) S2 rfl⟩⟩⟩
theorem pe_cmp2M {op op' : CmpOp} {o o' : MV → MV → Mh → Option Bool} (ho : OpR X (compareOp op) (rCmp X.K o)) (ho' : OpR X (compareOp op') (rCmp X.K o')) (ha : PE X a (tE X.K f)) (hb : PE X b (tE X.K g)) (hc : PE X c (tE X.K h))
    (hm : lastMarks [op, op'] [b, c] = false) : PE X (.Compare a [op, op'] [b, c] pos) (tE X.K (evOfT (evCmp2 o o' f g h))) :=
  PE.wk (pe_chain ho ho' ha hb hc hm) fun σ H Q ⟨w, env, hp, x, hp', S, E, q0, q⟩ => by
    obtain ⟨p0, z0, e0⟩ := Option.bind_eq_some_iff.mp q0
    cases e0
    obtain ⟨p, e1, e2⟩ := Option.bind_eq_some_iff.mp z0
    obtain ⟨p2, e3, e4⟩ := Option.bind_eq_some_iff.mp e2
    obtain ⟨r, e5, e6⟩ := Option.bind_eq_some_iff.mp e4
    refine ⟨w, env, hp, p.1, p.2, S, E, e1, fun w1 H1 v1 P1 S1 R1 => ⟨w1, env, p.2, p2.1, p2.2, S1, E.le P1.le, e3, fun w2 H2 v2 P2 S2 R2 => ⟨w2, p2.2, p.1, p2.1, r, S2, R1.le P2.le, R2, e5, r, rfl, ?_⟩⟩⟩
    split at e6
    · rename_i hr
      rw [if_pos hr]
      obtain ⟨p3, e7, e8⟩ := Option.bind_eq_some_iff.mp e6
      obtain ⟨r2, e9, e10⟩ := Option.bind_eq_some_iff.mp e8
      cases e10
      exact ⟨w2, env, p2.2, p3.1, p3.2, S2, E.le (P1.le.trans P2.le), e7, fun w3 H3 v3 P3 S3 R3 => ⟨w3, p3.2, p2.1, p3.1, r2, S3, R2.le P3.le, R3, e9, q w3 H3 _ (P1.trans (P2.trans P3)) S3 (.bl _)⟩⟩
    · rename_i hr
      cases e6
      rw [if_neg hr]
      exact q w2 H2 _ (P1.trans P2) S2 (.bl _)
theorem pt_cmp2M {op op' : CmpOp} {o o' : MV → MV → Mh → Option Bool} (ho : OpR X (compareOp op) (rCmp X.K o)) (ho' : OpR X (compareOp op') (rCmp X.K o')) (ha : PE X a (tE X.K f)) (hb : PE X b (tE X.K g)) (hc : PE X c (tE X.K h))
    (hm : lastMarks [op, op'] [b, c] = false) : PT X (.Compare a [op, op'] [b, c] pos) (tB X.K (evCmp2 o o' f g h)) :=
  PT.wk (pt_chain ho ho' ha hb hc hm) fun σ H Q ⟨w, env, hp, x, hp', S, E, q0, q⟩ => by
    obtain ⟨p, e1, e2⟩ := Option.bind_eq_some_iff.mp q0
    obtain ⟨p2, e3, e4⟩ := Option.bind_eq_some_iff.mp e2
    obtain ⟨r, e5, e6⟩ := Option.bind_eq_some_iff.mp e4
    refine ⟨w, env, hp, p.1, p.2, S, E, e1, fun w1 H1 v1 P1 S1 R1 => ⟨w1, env, p.2, p2.1, p2.2, S1, E.le P1.le, e3, fun w2 H2 v2 P2 S2 R2 => ⟨w2, p2.2, p.1, p2.1, r, S2, R1.le P2.le, R2, e5, r, rfl, ?_⟩⟩⟩
    split at e6
    · rename_i hr
      rw [if_pos hr]
      obtain ⟨p3, e7, e8⟩ := Option.bind_eq_some_iff.mp e6
      obtain ⟨r2, e9, e10⟩ := Option.bind_eq_some_iff.mp e8
      cases e10
      exact ⟨w2, env, p2.2, p3.1, p3.2, S2, E.le (P1.le.trans P2.le), e7, fun w3 H3 v3 P3 S3 R3 => ⟨w3, p3.2, p2.1, p3.1, x, S3, R2.le P3.le, R3, e9, x, rfl, q w3 H3 _ (P1.trans (P2.trans P3)) S3 rfl⟩⟩
    · rename_i hr
      cases e6
      rw [if_neg hr]
      exact ⟨_, rfl, q w2 H2 _ (P1.trans P2) S2 rfl⟩
/-- a value's truth -/
theorem pt_truM (ha : PE X a (tE X.K f)) (he : ∀ whole, isTrue a X.env whole = (do let v ← whole; standAt a.pos; holding [v] (truthy v))) : PT X a (tB X.K (etTru f)) :=
  PT.wk (pt_truth ha he) fun σ H Q ⟨w, env, hp, x, hp', S, E, q0, q⟩ => by
    obtain ⟨p, e1, e2⟩ := Option.bind_eq_some_iff.mp q0
    obtain ⟨b, e3, e4⟩ := Option.bind_eq_some_iff.mp e2
    cases e4
    exact ⟨w, env, hp, p.1, p.2, S, E, e1, fun w1 H1 v1 P1 S1 R1 => tru_of ⟨w1, p.2, p.1, x, S1, R1, e3, q w1 H1 _ P1 S1 rfl⟩⟩
theorem pt_notM {t : Et} (ha : PT X a (tB X.K t)) : PT X (.UnaryOp .Not a pos) (tB X.K (etNot t)) :=
  PT.wk (pt_not ha) fun σ H Q ⟨w, env, hp, x, hp', S, E, q0, q⟩ => by
    obtain ⟨p, e1, e2⟩ := Option.bind_eq_some_iff.mp q0
    cases e2
    refine ⟨w, env, hp, p.1, p.2, S, E, e1, fun w1 H1 v1 P1 S1 R1 => ?_⟩
    subst R1
    exact q w1 H1 _ P1 S1 rfl
theorem pe_notM (ha : PE X a (tE X.K f)) : PE X (.UnaryOp .Not a pos) (tE X.K (evOfT (etNot (etTru f)))) :=
  PE.wk (pe_notT ha) fun σ H Q ⟨w, env, hp, x, hp', S, E, q0, q⟩ => by
    obtain ⟨p0, z0, e0⟩ := Option.bind_eq_some_iff.mp q0
    cases e0
    obtain ⟨p1, z1, e7⟩ := Option.bind_eq_some_iff.mp z0
    obtain ⟨p, e1, e2⟩ := Option.bind_eq_some_iff.mp z1
    obtain ⟨b, e3, e4⟩ := Option.bind_eq_some_iff.mp e2
    cases e4
    cases e7
    exact ⟨w, env, hp, p.1, p.2, S, E, e1, fun w1 H1 v1 P1 S1 R1 => tru_of ⟨w1, p.2, p.1, b, S1, R1, e3, q w1 H1 _ P1 S1 (.bl _)⟩⟩
theorem pw_andM {t u : Et} {rest : List Expr} (ha : PT X a (tB X.K t)) (hb : PW X (.BoolOp .And (b :: rest) pos) (tB X.K u)) : PW X (.BoolOp .And (a :: b :: rest) pos) (tB X.K (etAnd t u)) :=
  PW.wk (pw_and ha hb) fun σ H Q ⟨w, env, hp, x, hp', S, E, q0, q⟩ => by
    obtain ⟨p, e1, e2⟩ := Option.bind_eq_some_iff.mp q0
    refine ⟨w, env, hp, p.1, p.2, S, E, e1, fun w1 H1 v1 P1 S1 R1 => ?_⟩
    subst R1
    split at e2
    · rename_i hb
      rw [if_pos hb]
      exact ⟨w1, env, p.2, x, hp', S1, E.le P1.le, e2, fun w2 H2 v2 P2 S2 R2 => q w2 H2 v2 (P1.trans P2) S2 R2⟩
    · rename_i hb
      cases e2
      rw [if_neg hb]
      exact q w1 H1 _ P1 S1 rfl
theorem pw_orM {t u : Et} {rest : List Expr} (ha : PT X a (tB X.K t)) (hb : PW X (.BoolOp .Or (b :: rest) pos) (tB X.K u)) : PW X (.BoolOp .Or (a :: b :: rest) pos) (tB X.K (etOr t u)) :=
  PW.wk (pw_or ha hb) fun σ H Q ⟨w, env, hp, x, hp', S, E, q0, q⟩ => by
    obtain ⟨p, e1, e2⟩ := Option.bind_eq_some_iff.mp q0
    refine ⟨w, env, hp, p.1, p.2, S, E, e1, fun w1 H1 v1 P1 S1 R1 => ?_⟩
    subst R1
    split at e2
    · rename_i hb
      cases e2
      rw [if_pos hb]
      exact q w1 H1 _ P1 S1 rfl
    · rename_i hb
      rw [if_neg hb]
      exact ⟨w1, env, p.2, x, hp', S1, E.le P1.le, e2, fun w2 H2 v2 P2 S2 R2 => q w2 H2 v2 (P1.trans P2) S2 R2⟩
theorem pe_andM {rest : List Expr} (ha : PE X a (tE X.K f)) (hb : PE X (.BoolOp .And (b :: rest) pos) (tE X.K g)) : PE X (.BoolOp .And (a :: b :: rest) pos) (tE X.K (evAnd f g)) :=
  PE.wk (pe_andT ha hb) fun σ H Q ⟨w, env, hp, x, hp', S, E, q0, q⟩ => by
    obtain ⟨p, e1, e2⟩ := Option.bind_eq_some_iff.mp q0
    obtain ⟨k, e3, e4⟩ := Option.bind_eq_some_iff.mp e2
    refine ⟨w, env, hp, p.1, p.2, S, E, e1, fun w1 H1 v1 P1 S1 R1 => ?_⟩
    refine tru_of (Q := fun k H1 => if k = true then tE X.K g σ H1 Q else Q v1 H1) ⟨w1, p.2, p.1, k, S1, R1, e3, ?_⟩
    show if k = true then _ else _
    split at e4
    · rename_i hk
      rw [if_pos hk]
      exact ⟨w1, env, p.2, x, hp', S1, E.le P1.le, e4, fun w2 H2 v2 P2 S2 R2 => q w2 H2 v2 (P1.trans P2) S2 R2⟩
    · rename_i hk
      rw [if_neg hk]
      cases e4
      exact q w1 H1 _ P1 S1 R1
theorem pe_orM {rest : List Expr} (ha : PE X a (tE X.K f)) (hb : PE X (.BoolOp .Or (b :: rest) pos) (tE X.K g)) : PE X (.BoolOp .Or (a :: b :: rest) pos) (tE X.K (evOr f g)) :=
  PE.wk (pe_orT ha hb) fun σ H Q ⟨w, env, hp, x, hp', S, E, q0, q⟩ => by
    obtain ⟨p, e1, e2⟩ := Option.bind_eq_some_iff.mp q0
    obtain ⟨k, e3, e4⟩ := Option.bind_eq_some_iff.mp e2
    refine ⟨w, env, hp, p.1, p.2, S, E, e1, fun w1 H1 v1 P1 S1 R1 => ?_⟩
    refine tru_of (Q := fun k H1 => if k = true then Q v1 H1 else tE X.K g σ H1 Q) ⟨w1, p.2, p.1, k, S1, R1, e3, ?_⟩
    show if k = true then _ else _
    split at e4
    · rename_i hk
      rw [if_pos hk]
      cases e4
      exact q w1 H1 _ P1 S1 R1
    · rename_i hk
      rw [if_neg hk]
      exact ⟨w1, env, p.2, x, hp', S1, E.le P1.le, e4, fun w2 H2 v2 P2 S2 R2 => q w2 H2 v2 (P1.trans P2) S2 R2⟩
theorem pe_ifM {t : Et} (hc : PT X c (tB X.K t)) (ha : PE X a (tE X.K f)) (hb : PE X b (tE X.K g)) : PE X (.IfExp c a b pos) (tE X.K (evIf t f g)) :=
  PE.wk (pe_ifExp hc ha hb) fun σ H Q ⟨w, env, hp, x, hp', S, E, q0, q⟩ => by
    obtain ⟨p, e1, e2⟩ := Option.bind_eq_some_iff.mp q0
    refine ⟨w, env, hp, p.1, p.2, S, E, e1, fun w1 H1 v1 P1 S1 R1 => ?_⟩
    subst R1
    split at e2
    · rename_i hb
      rw [if_pos hb]
      exact ⟨w1, env, p.2, x, hp', S1, E.le P1.le, e2, fun w2 H2 v2 P2 S2 R2 => q w2 H2 v2 (P1.trans P2) S2 R2⟩
    · rename_i hb
      rw [if_neg hb]
      exact ⟨w1, env, p.2, x, hp', S1, E.le P1.le, e2, fun w2 H2 v2 P2 S2 R2 => q w2 H2 v2 (P1.trans P2) S2 R2⟩
/-- a slice's parts -/
theorem po_opt {lo : Option Expr} {fo : Option Ev} (h : match lo, fo with | none, none => True | some e, some f => PE X e (tE X.K f) | _, _ => False) :
    PO X lo (tG X.K (fun _ _ _ x b => x = b) (evOpt fo)) := by
  cases lo with
  | none =>
    cases fo with
    | none =>
      refine ⟨fun pins s σ H Q I ⟨w, env, hp, x, hp', S, E, q0, q⟩ => po_none.run pins s σ H Q I ?_⟩
      cases q0
      exact q w H _ (Post.refl _ _) S rfl
    | some f => exact h.elim
  | some e =>
    cases fo with
    | none => exact h.elim
    | some f =>
      refine ⟨fun pins s σ H Q I ⟨w, env, hp, x, hp', S, E, q0, q⟩ => (po_some h).run pins s σ H Q I ?_⟩
      obtain ⟨p, e1, e2⟩ := Option.bind_eq_some_iff.mp q0
      split at e2
      · rename_i i hi
        cases e2
        refine ⟨w, env, hp, p.1, p.2, S, E, e1, fun w1 H1 v1 P1 S1 R1 => ?_⟩
        rw [hi] at R1
        cases R1
        exact ⟨i, rfl, q w1 H1 _ P1 S1 rfl⟩
      · cases e2
theorem pe_slM {lo hi : Option Expr} {fl fh : Option Ev} {p2 : Pos} (ha : PE X a (tE X.K f)) (hl : PO X lo (tG X.K (fun _ _ _ x b => x = b) (evOpt fl))) (hh : PO X hi (tG X.K (fun _ _ _ x b => x = b) (evOpt fh))) :
    PE X (.Subscript a (.Slice lo hi none p2) pos) (tR X.K (evSl f fl fh)) :=
  PE.wk (pe_slice ok_sl ha hl hh) fun σ H Q ⟨w, env, hp, x, hp', S, E, q0, q⟩ => by
    obtain ⟨p, e1, e2⟩ := Option.bind_eq_some_iff.mp q0
    obtain ⟨l, e3, e4⟩ := Option.bind_eq_some_iff.mp e2
    obtain ⟨u, e5, e6⟩ := Option.bind_eq_some_iff.mp e4
    obtain ⟨r, e7, e8⟩ := Option.bind_eq_some_iff.mp e6
    cases e8
    refine ⟨w, env, hp, p.1, p.2, S, E, e1, fun w1 H1 v1 P1 S1 R1 => ⟨w1, env, p.2, l.1, l.2, S1, E.le P1.le, e3, fun w2 H2 v2 P2 S2 R2 => ⟨w2, env, l.2, u.1, u.2, S2, E.le (P1.le.trans P2.le), e5, fun w3 H3 v3 P3 S3 R3 => ?_⟩⟩⟩
    subst R2 R3
    exact ⟨w3, u.2, p.1, x, S3, R1.le (P2.le.trans P3.le), e7, fun w4 H4 v P4 S4 R4 => q w4 H4 v (P1.trans (P2.trans (P3.trans P4))) S4 (R4.back (P1.trans (P2.trans P3)) P4.le)⟩
/-- a built-in's call -/
theorem pe_bltM {x : Str} {id : String} {p : Pos} {es : List Expr} {fs : List Ev} {o : List MV → Mh → Option R} (hc : CallR X (.builtin id) (rCallM X.K o)) (hg : Gl X x) (hm : X.mg x = none) (hv : bootBuiltins x = some (.builtin id)) (ha : PA X (e :: es) (tAs X.K (evAll fs))) (hn : x ≠ "__name__") (hdb : (x == ("__debug__" : Str)) = false)
    (he : starEach (e :: es) X.env = (false, eval e X.env) :: starEach es X.env) (hpl : (backTo pos (starEach es X.env)).any (·.1) = false) : PE X (.Call (.Name x p) (e :: es) [] pos) (tR X.K (evBlt o fs)) :=
  PE.wk (pe_callB hc hg hm hv ha hn hdb he hpl) fun σ H Q ⟨w, env, hp, x, hp', S, E, q0, q⟩ => by
    obtain ⟨p, e1, e2⟩ := Option.bind_eq_some_iff.mp q0
    obtain ⟨r, e5, e6⟩ := Option.bind_eq_some_iff.mp e2
    cases e6
    exact ⟨w, env, hp, p.1, p.2, S, E, e1, fun w1 H1 v1 P1 S1 R1 => ⟨w1, p.2, p.1, x, S1, R1, e5, fun w3 H3 v P3 S3 R3 => q w3 H3 v (P1.trans P3) S3 (R3.back P1 P3.le)⟩⟩
theorem pe_tyM {x : Str} {T : String} {p : Pos} {es : List Expr} {fs : List Ev} {o : List MV → Mh → Option R} (hc : CallR X (.type T) (rCallM X.K o)) (hg : Gl X x) (hm : X.mg x = none) (hv : bootBuiltins x = some (.type T)) (ha : PA X (e :: es) (tAs X.K (evAll fs))) (hn : x ≠ "__name__") (hdb : (x == ("__debug__" : Str)) = false)
    (he : starEach (e :: es) X.env = (false, eval e X.env) :: starEach es X.env) (hpl : (backTo pos (starEach es X.env)).any (·.1) = false) : PE X (.Call (.Name x p) (e :: es) [] pos) (tR X.K (evBlt o fs)) :=
  PE.wk (pe_callTy hc hg hm hv ha hn hdb he hpl) fun σ H Q ⟨w, env, hp, x, hp', S, E, q0, q⟩ => by
    obtain ⟨p, e1, e2⟩ := Option.bind_eq_some_iff.mp q0
    obtain ⟨r, e5, e6⟩ := Option.bind_eq_some_iff.mp e2
    cases e6
    exact ⟨w, env, hp, p.1, p.2, S, E, e1, fun w1 H1 v1 P1 S1 R1 => ⟨w1, p.2, p.1, x, S1, R1, e5, fun w3 H3 v P3 S3 R3 => q w3 H3 v (P1.trans P3) S3 (R3.back P1 P3.le)⟩⟩

/-- what a def of the text promises: its evaluator's answer -/
def spF (K : PySem.W.Frag) (ar : Nat) (φ : List MV → Mh → Option (MV × Mh)) : Sp := fun vs H Q _ => vs.length = ar ∧ ∃ w hp as r hp', HSim K w H hp ∧ RepMs K w as vs ∧ φ as hp = some (r, hp') ∧
  ∀ w' H' v, Post w H w' H' → HSim K w' H' hp' → RepM K w' r v → Q v H'
theorem evAll_length : ∀ {fs : List Ev} {env : Me} {hp : Mh} {xs : List MV} {hp' : Mh}, evAll fs env hp = some (xs, hp') → xs.length = fs.length
  | [], _, _, _, _, h => by cases h; rfl
  | f :: r, _, _, _, _, h => by
    obtain ⟨p, e1, e2⟩ := Option.bind_eq_some_iff.mp h
    obtain ⟨q, e3, e4⟩ := Option.bind_eq_some_iff.mp e2
    cases e4
    simp [evAll_length e3]
theorem callM {K : PySem.W.Frag} {fs : List Ev} {φ : List MV → Mh → Option (MV × Mh)} {ar : Nat} (hl : fs.length = ar) {σ : St} {H : Hp} {Q : VK} (h : tE K (evCall φ fs) σ H Q) : tCall (spF K ar φ) [] E0 (tAs K (evAll fs)) σ H Q := by
  obtain ⟨w, env, hp, x, hp', S, E, q0, q⟩ := h
  obtain ⟨p, e1, e2⟩ := Option.bind_eq_some_iff.mp q0
  refine ⟨w, env, hp, p.1, p.2, S, E, e1, fun w1 H1 vs P1 S1 R1 => ⟨?_, w1, p.2, p.1, x, hp', S1, by rw [List.append_nil]; exact R1, e2, fun w2 H2 v P2 S2 R2 => q w2 H2 v (P1.trans P2) S2 R2⟩⟩
  rw [List.append_nil, ← Paired.length R1, evAll_length e1, hl]
theorem pe_callM {k ar : Nat} {fa : Addr} {fd : FuncData} {ps : List Str} {x : Str} {p : Pos} {es : List Expr} {fs : List Ev} {φ : List MV → Mh → Option (MV × Mh)} (F : FnOk X.prog X.w X.K X.mg X.base CX0 k fa fd ps (spF X.K ar φ)) (hr : Room k X.A) (hg : Gl X x) (hm : X.mg x = some (.ref fa))
    (hk : PySem.W.keepIn X.K (.ref fa) = true) (hb : Binds X.K fd ps []) (hl : fs.length = ar) (ha : PA X (e :: es) (tAs X.K (evAll fs))) (hdb : (x == ("__debug__" : Str)) = false) (he : starEach (e :: es) X.env = (false, eval e X.env) :: starEach es X.env) (hpl : (backTo pos (starEach es X.env)).any (·.1) = false) :
    PE X (.Call (.Name x p) (e :: es) [] pos) (tE X.K (evCall φ fs)) :=
  PE.wk (pe_call F hr hg hm hk hb .nil pass0 ha hdb he hpl) fun σ H Q h => callM hl h
theorem pe_callM0 {k : Nat} {fa : Addr} {fd : FuncData} {ps : List Str} {x : Str} {p : Pos} {φ : List MV → Mh → Option (MV × Mh)} (F : FnOk X.prog X.w X.K X.mg X.base CX0 k fa fd ps (spF X.K 0 φ)) (hr : Room k X.A) (hg : Gl X x) (hm : X.mg x = some (.ref fa))
    (hk : PySem.W.keepIn X.K (.ref fa) = true) (hb : Binds X.K fd ps []) (hdb : (x == ("__debug__" : Str)) = false) :
    PE X (.Call (.Name x p) [] [] pos) (tE X.K (evCall φ [])) :=
  PE.wk (pe_call0 F hr hg hm hk hb .nil pass0 hdb) fun σ H Q h => by
    obtain ⟨w, env, hp, x, hp', S, E, q0, q⟩ := callM (ar := 0) rfl h
    cases q0
    exact q w H [] (Post.refl _ _) S .nil
end
end L2.MP
/-! MiniPy F: statements, loops, comprehensions. -/
namespace L2.MP
open PySem PySem.Spec PyProof.Rows

inductive Out where
  | nx | rt (x : MV) | bk | ct
abbrev ES := Me → Mh → Option (Out × Me × Mh)
abbrev Eg := MV → Me → Mh → Option (Me × Mh)

/-- what a statement leaves -/
def Fin (K : PySem.W.Frag) (w : Wd) (H : Hp) (env' : Me) (hp' : Mh) (D : Ends) (o : Out) : Prop :=
  match o with
  | .nx => ∀ w' H' σ', Post w H w' H' → HSim K w' H' hp' → EnvSim K w' σ' env' → D.nx σ' H'
  | .rt x => ∀ w' H' v, Post w H w' H' → HSim K w' H' hp' → RepM K w' x v → D.rt v H'
  | .bk => ∀ w' H' σ', Post w H w' H' → HSim K w' H' hp' → EnvSim K w' σ' env' → D.bk σ' H'
  | .ct => ∀ w' H' σ', Post w H w' H' → HSim K w' H' hp' → EnvSim K w' σ' env' → D.ct σ' H'
theorem Fin.trans {K : PySem.W.Frag} {w w1 : Wd} {H H1 : Hp} {env' : Me} {hp' : Mh} {D : Ends} {o : Out} (P1 : Post w H w1 H1) (q : Fin K w H env' hp' D o) : Fin K w1 H1 env' hp' D o := by
  cases o with
  | nx => exact fun w2 H2 σ2 P2 S2 E2 => q w2 H2 σ2 (P1.trans P2) S2 E2
  | rt x => exact fun w2 H2 v P2 S2 R2 => q w2 H2 v (P1.trans P2) S2 R2
  | bk => exact fun w2 H2 σ2 P2 S2 E2 => q w2 H2 σ2 (P1.trans P2) S2 E2
  | ct => exact fun w2 H2 σ2 P2 S2 E2 => q w2 H2 σ2 (P1.trans P2) S2 E2
def tS (K : PySem.W.Frag) (f : ES) : TS := fun D σ H => ∃ w env hp o env' hp', HSim K w H hp ∧ EnvSim K w σ env ∧ f env hp = some (o, env', hp') ∧ Fin K w H env' hp' D o
/-- the slots in L alone may have changed -/
def Agr (L : List Nat) (σ σ' : St) : Prop := σ'.length = σ.length ∧ ∀ i, i ∉ L → σ'[i]? = σ[i]?
theorem Agr.refl (L : List Nat) (σ : St) : Agr L σ σ := ⟨rfl, fun _ _ => rfl⟩
theorem Agr.trans {L : List Nat} {σ σ1 σ2 : St} (a : Agr L σ σ1) (b : Agr L σ1 σ2) : Agr L σ σ2 := ⟨b.1.trans a.1, fun i h => (b.2 i h).trans (a.2 i h)⟩
theorem Agr.set {L : List Nat} {i : Nat} (h : i ∈ L) (σ : St) (v : Option V) : Agr L σ (σ.set i v) := ⟨by simp, fun j hj => List.getElem?_set_ne (fun e : i = j => by subst e; exact hj h)⟩
def tGt (K : PySem.W.Frag) (L : List Nat) (g : Eg) : TG := fun v σ H Q => ∃ w env hp x env' hp', HSim K w H hp ∧ EnvSim K w σ env ∧ RepM K w x v ∧ g x env hp = some (env', hp') ∧
  ∀ w' H' σ', Post w H w' H' → HSim K w' H' hp' → EnvSim K w' σ' env' → Agr L σ σ' → Q σ' H'
def tGts (K : PySem.W.Frag) (L : List Nat) (g : List MV → Me → Mh → Option (Me × Mh)) : TGs := fun vs σ H Q => ∃ w env hp xs env' hp', HSim K w H hp ∧ EnvSim K w σ env ∧ RepMs K w xs vs ∧ g xs env hp = some (env', hp') ∧
  ∀ w' H' σ', Post w H w' H' → HSim K w' H' hp' → EnvSim K w' σ' env' → Agr L σ σ' → Q σ' H'

def egName (i : Nat) : Eg := fun x env hp => some (env.set i (some x), hp)
def egAll : List Eg → List MV → Me → Mh → Option (Me × Mh)
  | [], [] => fun env hp => some (env, hp)
  | g :: gs, x :: xs => fun env hp => (g x env hp).bind fun p => egAll gs xs p.1 p.2
  | _, _ => fun _ _ => none
def egTup (gs : List Eg) : Eg := fun x env hp => match x with
  | .d (.tuple ds) => if ds.length = gs.length then egAll gs (ds.map .d) env hp else none
  | _ => none
/-- o[i] = v on a cell -/
def setM (o i x : MV) (hp : Mh) : Option Mh :=
  match o, i with
  | .c n, .d (.int k) => match hp[n]? with
    | some (.lst xs) => match ixN xs.length k with
      | some j => match x with
        | .d y => some (hp.set n (.lst (xs.set j (.d y))))
        | .c m => if m < n then some (hp.set n (.lst (xs.set j (.c m)))) else none
        | .k _ => none
      | none => none
    | _ => none
  | _, _ => none
def egSub (f g : Ev) : Eg := fun x env hp => (f env hp).bind fun p => (g env p.2).bind fun q => (setM p.1 q.1 x q.2).bind fun h => some (env, h)

def esSeq : List ES → ES
  | [] => fun env hp => some (.nx, env, hp)
  | s :: r => fun env hp => (s env hp).bind fun p => match p.1 with
    | .nx => esSeq r p.2.1 p.2.2
    | _ => some p
def esAsg (f : Ev) (g : Eg) : ES := fun env hp => (f env hp).bind fun p => (g p.1 env p.2).bind fun q => some (.nx, q.1, q.2)
def esPar (fs : List Ev) (gs : List Eg) : ES := fun env hp => (evAll fs env hp).bind fun p => (egAll gs p.1 env p.2).bind fun q => some (.nx, q.1, q.2)
def esAug (i : Nat) (op : MV → MV → Mh → Option R) (f : Ev) : ES := fun env hp => match env[i]? with
  | some (some x) => (f env hp).bind fun p => (op x p.1 p.2).bind fun r => match r with
    | .v y => some (.nx, env.set i (some y), p.2)
    | .l _ => none
  | _ => none
def esAugS (fo fi : Ev) (op : MV → MV → Mh → Option R) (f : Ev) : ES := fun env hp => (fo env hp).bind fun o => (fi env o.2).bind fun i => (ixM o.1 i.1 i.2).bind fun x => match x with
  | .v x => (f env i.2).bind fun p => (op x p.1 p.2).bind fun r => match r with
    | .v y => (setM o.1 i.1 y p.2).bind fun h => some (.nx, env, h)
    | .l _ => none
  | .l _ => none
def esExpr (f : Ev) : ES := fun env hp => (f env hp).bind fun p => some (.nx, env, p.2)
def esRet (f : Ev) : ES := fun env hp => (f env hp).bind fun p => some (.rt p.1, env, p.2)
def esRetN : ES := fun env hp => some (.rt (.d .none), env, hp)
def esIf (t : Et) (a b : ES) : ES := fun env hp => (t env hp).bind fun p => if p.1 = true then a env p.2 else b env p.2
def esBreak : ES := fun env hp => some (.bk, env, hp)
def esCont : ES := fun env hp => some (.ct, env, hp)
def goWhile (t : Et) (b : ES) : Nat → ES
  | 0 => fun _ _ => none
  | k + 1 => fun env hp => (t env hp).bind fun p => if p.1 = true then (b env p.2).bind fun o => match o.1 with
      | .nx => goWhile t b k o.2.1 o.2.2
      | .ct => goWhile t b k o.2.1 o.2.2
      | .bk => some (.nx, o.2.1, o.2.2)
      | .rt x => some (.rt x, o.2.1, o.2.2)
    else some (.nx, env, p.2)

/-- what is walked -/
inductive Src where
  | seq (x : MV) (n : Nat)
  | rng (lo : Int) (n : Nat)
abbrev Ei := Me → Mh → Option (Src × Mh)
def Src.size : Src → Nat
  | .seq _ n => n
  | .rng _ n => n
def Src.at (s : Src) (i : Nat) (hp : Mh) : Option MV :=
  match s with
  | .seq x n => match seqOf x hp with
    | some xs => if xs.length = n then xs[i]? else none
    | none => none
  | .rng lo n => if i < n then some (.d (.int (lo + (i : Int)))) else none
def Src.stop (s : Src) (hp : Mh) : Bool :=
  match s with
  | .seq x n => match seqOf x hp with
    | some xs => decide (xs.length = n)
    | none => false
  | .rng _ _ => true
def eiSeq (f : Ev) : Ei := fun env hp => (f env hp).bind fun p => (seqOf p.1 p.2).bind fun xs => some (.seq p.1 xs.length, p.2)
def rngOk (i : Int) : Bool := decide (-(2 ^ 62) ≤ i) && decide (i < 2 ^ 62)
def eiRng1 (f : Ev) : Ei := fun env hp => (f env hp).bind fun p => match p.1 with
  | .d (.int j) => if rngOk j then some (.rng 0 j.toNat, p.2) else none
  | _ => none
def eiRng2 (f g : Ev) : Ei := fun env hp => (f env hp).bind fun p => (g env p.2).bind fun q => match p.1, q.1 with
  | .d (.int i), .d (.int j) => if rngOk i && rngOk j then some (.rng i (j - i).toNat, q.2) else none
  | _, _ => none

def goFor (s : Src) (g : Eg) (b : ES) : Nat → Nat → ES
  | 0, _ => fun env hp => if s.stop hp = true then some (.nx, env, hp) else none
  | k + 1, i => fun env hp => (s.at i hp).bind fun x => (g x env hp).bind fun p => (b p.1 p.2).bind fun o => match o.1 with
      | .nx => goFor s g b k (i + 1) o.2.1 o.2.2
      | .ct => goFor s g b k (i + 1) o.2.1 o.2.2
      | .bk => some (.nx, o.2.1, o.2.2)
      | .rt x => some (.rt x, o.2.1, o.2.2)
def esFor (it : Ei) (g : Eg) (b : ES) : ES := fun env hp => (it env hp).bind fun s => goFor s.1 g b s.1.size 0 env s.2

def wipeE (env : Me) : List Nat → Me
  | [] => env
  | v :: vs => (wipeE env vs).set v none
/-- a comprehension's turns -/
def goLc (s : Src) (g : Eg) (t : Et) (f : Ev) (env0 : Me) : Nat → Nat → List MV → Mh → Option (List MV × Mh)
  | 0, _, acc, hp => if s.stop hp = true then some (acc, hp) else none
  | k + 1, i, acc, hp => (s.at i hp).bind fun x => (g x env0 hp).bind fun p => (t p.1 p.2).bind fun b =>
    if b.1 = true then (f p.1 b.2).bind fun y => if acc.length < sizeLine then goLc s g t f env0 k (i + 1) (acc ++ [y.1]) y.2 else none
    else goLc s g t f env0 k (i + 1) acc b.2
def evLc (it : Ei) (g : Eg) (t : Et) (f : Ev) (vs : List Nat) : Er := fun env hp => (it env hp).bind fun s => (goLc s.1 g t f (wipeE env vs) s.1.size 0 [] s.2).bind fun p => some (.l p.1, p.2)
def etYes : Et := fun _ hp => some (true, hp)

section
variable {K : PySem.W.Frag} {w : Wd} {H : Hp} {hp : Mh}
/-- a cell's list is another one -/
theorem HSim.setc (S : HSim K w H hp) {n : Nat} {xs ys : List MV} (hn : hp[n]? = some (.lst xs)) {a : Addr} (ha : w.mu[n]? = some a) {us : List V} (r : RepMs K w ys us) (hj : ∀ j, MV.c j ∈ ys → j < n) :
    HSim K w (upd H a (.lst us)) (hp.set n (.lst ys)) ∧ Post w H w (upd H a (.lst us)) ∧ ∃ vs, H a = some (.lst vs) ∧ RepMs K w xs vs ∧ w.F a = none := by
  obtain ⟨b, h1, h2⟩ := S.cell n _ hn
  rw [ha] at h1
  cases h1
  obtain ⟨q1, vs, q2, q3, q4⟩ := h2
  have hlen : n < hp.length := (List.getElem?_eq_some_iff.mp hn).1
  have hmem : a ∈ w.mu := List.mem_of_getElem? ha
  refine ⟨⟨fun c u e => ?_, by simp [S.len], S.nd, fun b hb => ?_, fun m c q => ?_⟩, ⟨Le.refl _, fun _ h => .inl h, fun _ h => .inl h, fun c o e hc => ?_⟩, vs, q2, q3, q1⟩
  · have hc : c ≠ a := fun z => by subst z; rw [q1] at e; cases e
    rw [upd_ne hc]
    exact S.sub c u e
  · by_cases hba : b = a
    · subst hba; rw [upd_same]; simp
    · rw [upd_ne hba]; exact S.trk b hb
  · by_cases hm : m = n
    · subst hm
      rw [List.getElem?_set_self hlen] at q
      cases q
      exact ⟨a, ha, q1, us, upd_same, r, hj⟩
    · rw [List.getElem?_set_ne (Ne.symm hm)] at q
      obtain ⟨b, h1, h2⟩ := S.cell m c q
      refine ⟨b, h1, ?_⟩
      have hb : b ≠ a := fun z => hm (S.inj h1 (z ▸ ha))
      cases c with
      | lst ys =>
        obtain ⟨p1, us', p2, p3, p4⟩ := h2
        exact ⟨p1, us', by rw [upd_ne hb]; exact p2, p3, p4⟩
      | dct _ => exact h2
      | frz x => exact h2
  · have hc' : c ≠ a := fun z => hc (z ▸ hmem)
    rw [upd_ne hc']
    exact e
theorem repMs_set {xs : List MV} {vs : List V} {x : MV} {v : V} (r : RepM K w x v) : ∀ {xs : List MV} {vs : List V} (j : Nat), RepMs K w xs vs → RepMs K w (xs.set j x) (vs.set j v)
  | _, _, _, .nil => .nil
  | _, _, 0, .cons _ t => .cons r t
  | _, _, j + 1, .cons p t => .cons p (repMs_set (xs := xs) (vs := vs) r j t)
theorem setM_ok (S : HSim K w H hp) {o i x : MV} {ov iv' v : V} (ro : RepM K w o ov) (ri : RepM K w i iv') (rx : RepM K w x v) {hp' : Mh} (e : setM o i x hp = some hp') :
    ∃ (p : Addr) (vs : List V) (k : Int) (j : Nat), ov = .ref p ∧ iv' = .int k ∧ H p = some (.lst vs) ∧ ixN vs.length k = some j ∧ HSim K w (upd H p (.lst (vs.set j v))) hp' ∧ Post w H w (upd H p (.lst (vs.set j v))) := by
  unfold setM at e
  split at e
  · rename_i n k
    split at e
    · rename_i xs hn
      split at e
      · rename_i j hj
        obtain ⟨a, ha, rfl⟩ := ro
        cases ri
        have key : ∀ y : MV, RepM K w y v → (∀ m, y = .c m → m < n) → ∃ vs : List V, H a = some (.lst vs) ∧ ixN vs.length k = some j ∧ HSim K w (upd H a (.lst (vs.set j v))) (hp.set n (.lst (xs.set j y))) ∧ Post w H w (upd H a (.lst (vs.set j v))) := by
          intro y ry hy
          obtain ⟨b, h1, h2⟩ := S.cell n _ hn
          rw [ha] at h1
          cases h1
          obtain ⟨q1, vs, q2, q3, q4⟩ := h2
          obtain ⟨s1, s2, _⟩ := S.setc hn ha (repMs_set (xs := xs) (vs := vs) ry j q3) (fun m hm => by
            rcases List.mem_or_eq_of_mem_set hm with h | h
            · exact q4 m h
            · exact hy m h.symm)
          exact ⟨vs, q2, by rw [← Paired.length q3]; exact hj, s1, s2⟩
        split at e
        · cases e
          obtain ⟨vs, h1, h2, h3, h4⟩ := key _ rx (fun m z => nomatch z)
          exact ⟨a, vs, k, j, rfl, rfl, h1, h2, h3, h4⟩
        · split at e
          · rename_i hm
            cases e
            obtain ⟨vs, h1, h2, h3, h4⟩ := key _ rx (fun m z => by cases z; exact hm)
            exact ⟨a, vs, k, j, rfl, rfl, h1, h2, h3, h4⟩
          · cases e
        · cases e
      · cases e
    · cases e
  · cases e
end

section
variable {X : Cx} {pos : Pos} {f g h : Ev} {a b c e : Expr}
theorem pg_nameM {L : List Nat} {i : Nat} {x : Str} (hL : i ∈ L) (hN : X.N.Nodup) (hi : X.N[i]? = some x) (hx : Loc X.env.scope x) (hf : X.fn x = true ∨ X.env.scope.names.lookup x = some .local) : PG X (.Name x pos) (tGt X.K L (egName i)) := by
  refine ⟨fun pins s σ H v u Q I r ⟨w, env, hp, y, env', hp', S, E, ry, q0, q⟩ => (pg_name hN hi hx hf).run pins s σ H v u Q I r ?_⟩
  cases q0
  exact q w H _ (Post.refl _ _) S (E.set i ry) (Agr.set hL _ _)
theorem pgs_allM {L : List Nat} {ts : List Expr} : ∀ {gs : List Eg}, Paired (fun t g => PG X t (tGt X.K L g) ∧ ∀ es, (assignEach (t :: es) X.env).map (·.2) = assign t X.env :: (assignEach es X.env).map (·.2)) ts gs → PGs X ts (tGts X.K L (egAll gs))
  | _, .nil => by
    refine ⟨fun pins s σ H vs us Q I r ⟨w, env, hp, ys, env', hp', S, E, ry, q0, q⟩ => pgs_nil.run pins s σ H vs us Q I r ?_⟩
    cases ry with
    | nil =>
      cases q0
      exact ⟨rfl, q w H σ (Post.refl _ _) S E (Agr.refl _ _)⟩
    | cons _ _ => cases q0
  | _, .cons h1 t => by
    refine ⟨fun pins s σ H vs us Q I r ⟨w, env, hp, ys, env', hp', S, E, ry, q0, q⟩ => (pgs_cons h1.1 (pgs_allM t) (h1.2 _)).run pins s σ H vs us Q I r ?_⟩
    cases ry with
    | nil => cases q0
    | cons p pt =>
      obtain ⟨z, e1, e2⟩ := Option.bind_eq_some_iff.mp q0
      exact ⟨_, _, rfl, w, env, hp, _, z.1, z.2, S, E, p, e1, fun w1 H1 σ1 P1 S1 E1 A1 => ⟨w1, z.1, z.2, _, env', hp', S1, E1, RepMs.le P1.le pt, e2, fun w2 H2 σ2 P2 S2 E2 A2 => q w2 H2 σ2 (P1.trans P2) S2 E2 (A1.trans A2)⟩⟩
theorem pg_tupM {L : List Nat} {es : List Expr} {k : Nat} {gs : List Eg} (hc : X.calm = true) (h : PGs X es (tGts X.K L (egAll gs))) (hn : (assignEach es X.env).length = gs.length) (hst : (assignEach es X.env).findIdx? (·.1) = none) :
    PG X (.Tuple es k pos) (tGt X.K L (egTup gs)) := by
  refine ⟨fun pins s σ H v u Q I r ⟨w, env, hp, y, env', hp', S, E, ry, q0, q⟩ => (pg_tup hc h hn hst).run pins s σ H v u Q I r ?_⟩
  unfold egTup at q0
  split at q0
  · rename_i ds
    split at q0
    · rename_i hl
      cases ry with
      | tup hs ha => exact ⟨_, _, rfl, sqT_same S.sub hs, by rw [dpAll_length ha]; exact hl, w, env, hp, _, env', hp', S, E, repMs_of_dpAll ha, q0, q⟩
    · cases q0
  · cases q0
theorem pg_subM {L : List Nat} (ha : PE X a (tE X.K f)) (hb : PE X b (tE X.K g)) (hs : ∀ v, assign (.Subscript a b pos) X.env v = (do
      let ov ← holding [v] (eval a X.env)
      let iv ← holding [v, ov] (eval b X.env)
      standAt pos
      holding [v, ov, iv] (setItem ov iv v)
      release [v, ov, iv] [])) : PG X (.Subscript a b pos) (tGt X.K L (egSub f g)) := by
  refine ⟨fun pins s σ H v u Q I r ⟨w, env, hp, y, env', hp', S, E, ry, q0, q⟩ => (pg_sub ha hb set_list hs).run pins s σ H v u Q I r ?_⟩
  obtain ⟨p, e1, e2⟩ := Option.bind_eq_some_iff.mp q0
  obtain ⟨p2, e3, e4⟩ := Option.bind_eq_some_iff.mp e2
  obtain ⟨h', e5, e6⟩ := Option.bind_eq_some_iff.mp e4
  cases e6
  refine ⟨w, env, hp, p.1, p.2, S, E, e1, fun w1 H1 v1 P1 S1 R1 => ⟨w1, env, p.2, p2.1, p2.2, S1, E.le P1.le, e3, fun w2 H2 v2 P2 S2 R2 => ?_⟩⟩
  obtain ⟨a', vs, k, j, rfl, rfl, z1, z2, z3, z4⟩ := setM_ok S2 (R1.le P2.le) R2 (ry.le (P1.le.trans P2.le)) e5
  exact ⟨a', vs, k, j, rfl, rfl, z1, z2, q w2 _ σ (P1.trans (P2.trans z4)) z3 (E.le (P1.le.trans P2.le)) (Agr.refl _ _)⟩

/-! ### statements -/
theorem pss_allM {ss : List Stmt} : ∀ {fs : List ES}, Paired (fun st f => PS X st (tS X.K f)) ss fs → PSs X ss (tS X.K (esSeq fs))
  | _, .nil => PSs.wk pss_nil fun D σ H ⟨w, env, hp, o, env', hp', S, E, q0, q⟩ => by
    cases q0
    exact q w H σ (Post.refl _ _) S E
  | _, .cons h t => PSs.wk (pss_cons h (pss_allM t)) fun D σ H ⟨w, env, hp, o, env', hp', S, E, q0, q⟩ => by
    obtain ⟨p, e1, e2⟩ := Option.bind_eq_some_iff.mp q0
    obtain ⟨o1, env1, hp1⟩ := p
    cases o1 with
    | nx => exact ⟨w, env, hp, .nx, env1, hp1, S, E, e1, fun w1 H1 σ1 P1 S1 E1 => ⟨w1, env1, hp1, o, env', hp', S1, E1, e2, q.trans P1⟩⟩
    | rt x => cases e2; exact ⟨w, env, hp, _, _, _, S, E, e1, q⟩
    | bk => cases e2; exact ⟨w, env, hp, _, _, _, S, E, e1, q⟩
    | ct => cases e2; exact ⟨w, env, hp, _, _, _, S, E, e1, q⟩
/-- an assignment's reading -/
theorem asgM {K : PySem.W.Frag} {L : List Nat} {te : TE} {tg : TG} {g : Eg} (he : ∀ σ H Q, tE K f σ H Q → te σ H Q) (hg : ∀ v σ H Q, tGt K L g v σ H Q → tg v σ H Q) {D : Ends} {σ : St} {H : Hp} (h : tS K (esAsg f g) D σ H) : tAsg te tg D σ H := by
  obtain ⟨w, env, hp, o, env', hp', S, E, q0, q⟩ := h
  obtain ⟨p, e1, e2⟩ := Option.bind_eq_some_iff.mp q0
  obtain ⟨p2, e3, e4⟩ := Option.bind_eq_some_iff.mp e2
  cases e4
  exact he _ _ _ ⟨w, env, hp, p.1, p.2, S, E, e1, fun w1 H1 v1 P1 S1 R1 => hg _ _ _ _ ⟨w1, env, p.2, p.1, p2.1, p2.2, S1, E.le P1.le, R1, e3, fun w2 H2 σ2 P2 S2 E2 _ => q w2 H2 σ2 (P1.trans P2) S2 E2⟩⟩
theorem gNameM {K : PySem.W.Frag} {i : Nat} : ∀ v σ H Q, tGt K [i] (egName i) v σ H Q → gName i v σ H Q := fun v σ H Q ⟨w, env, hp, y, env', hp', S, E, ry, q0, q⟩ => by
  cases q0
  exact q w H _ (Post.refl _ _) S (E.set i ry) (Agr.set (by simp) _ _)
theorem ps_setM {i : Nat} {x : Str} {pos' : Pos} (hN : X.N.Nodup) (hi : X.N[i]? = some x) (hx : Loc X.env.scope x) (he : PE X e (tE X.K f)) (hs : swapsWith e (some (.Name x pos')) pos.line X.env = pure false) (hf : X.fn x = true ∨ X.env.scope.names.lookup x = some .local) :
    PS X (.Assign [.Name x pos'] e pos) (tS X.K (esAsg f (egName i))) := PS.wk (ps_set hN hi hx he hs hf) fun D σ H h => asgM (fun _ _ _ q => q) gNameM h
theorem ps_asgM {L : List Nat} {tg : Expr} {g : Eg} (he : PE X e (tE X.K f)) (hg : PG X tg (tGt X.K L g)) (hs : swapsWithSole [tg] e pos.line X.env = pure false) (hw : swappedStores [tg] e X.env = pure none) (h1 : (assignEach [tg] X.env).map (·.2) = [assign tg X.env]) :
    PS X (.Assign [tg] e pos) (tS X.K (esAsg f g)) := PS.wk (ps_asg he hg hs hw h1) fun D σ H h => asgM (fun _ _ _ q => q) (fun _ _ _ _ q => q) h
/-- a, b, .. = x, y, .. : the tuple is made, then taken apart -/
theorem ps_parM {L : List Nat} {ts es : List Expr} {k1 k2 : Nat} {p1 p2 : Pos} {fs : List Ev} {gs : List Eg} (hc : X.calm = true) (ha : PA X es (tAs X.K (evAll fs))) (hg : PGs X ts (tGts X.K L (egAll gs))) (hl : fs.length = gs.length) (hz : fs.length ≤ sizeLine)
    (hn : (assignEach ts X.env).length = gs.length) (hst : (assignEach ts X.env).findIdx? (·.1) = none) (hs : swapsWithSole [.Tuple ts k1 p1] (.Tuple es k2 p2) pos.line X.env = pure false) (hw : swappedStores [.Tuple ts k1 p1] (.Tuple es k2 p2) X.env = pure none)
    (h1 : (assignEach [.Tuple ts k1 p1] X.env).map (·.2) = [assign (.Tuple ts k1 p1) X.env]) : PS X (.Assign [.Tuple ts k1 p1] (.Tuple es k2 p2) pos) (tS X.K (esPar fs gs)) :=
  PS.wk (ps_asg (pe_tup ha) (pg_tup hc hg hn hst) hs hw h1) fun D σ H ⟨w, env, hp, o, env', hp', S, E, q0, q⟩ => by
    obtain ⟨p, e1, e2⟩ := Option.bind_eq_some_iff.mp q0
    obtain ⟨p2, e3, e4⟩ := Option.bind_eq_some_iff.mp e2
    cases e4
    have hpl : p.1.length = fs.length := evAll_length e1
    refine ⟨w, env, hp, p.1, p.2, S, E, e1, fun w1 H1 vs P1 S1 R1 => ⟨by rw [← Paired.length R1, hpl]; exact hz, fun a hn' => ⟨a, vs, rfl, .of upd_same, by rw [← Paired.length R1, hpl, hl], ?_⟩⟩⟩
    exact ⟨w1, env, p.2, p.1, p2.1, p2.2, S1.more (same_upd hn'), E.le P1.le, R1, e3, fun w2 H2 σ2 P2 S2 E2 _ => q w2 H2 σ2 (P1.trans ((Post.laid w1 hn').trans P2)) S2 E2⟩
theorem ps_par2M {i j : Nat} {x y : Str} {px py pt : Pos} {kt k2 : Nat} {pt2 : Pos} {fs : List Ev} (hc : X.calm = true) (hN : X.N.Nodup) (hi : X.N[i]? = some x) (hj : X.N[j]? = some y) (hij : i ≠ j)
    (hx : X.env.scope.names.lookup x = some .local) (hy : X.env.scope.names.lookup y = some .local) (ha : PA X [a, b] (tAs X.K (evAll fs)))
    (hw : swappedStores [.Tuple [.Name x px, .Name y py] kt pt] (.Tuple [a, b] k2 pt2) X.env = pure (some [x, y]))
    (hs : swapsWithSole [.Tuple [.Name x px, .Name y py] kt pt] (.Tuple [a, b] k2 pt2) pos.line X.env = pure false) :
    PS X (.Assign [.Tuple [.Name x px, .Name y py] kt pt] (.Tuple [a, b] k2 pt2) pos) (tS X.K (esPar fs [egName i, egName j])) :=
  PS.wk (ps_par hc hN hi hj hij hx hy ha hw hs) fun D σ H ⟨w, env, hp, o, env', hp', S, E, q0, q⟩ => by
    obtain ⟨p, e1, e2⟩ := Option.bind_eq_some_iff.mp q0
    obtain ⟨p2, e3, e4⟩ := Option.bind_eq_some_iff.mp e2
    cases e4
    refine ⟨w, env, hp, p.1, p.2, S, E, e1, fun w1 H1 vs P1 S1 R1 => ?_⟩
    obtain ⟨xs, hp1⟩ := p
    match xs, e3, R1 with
    | [x1, x2], e3, R1 =>
      obtain ⟨v1, v2, rfl, r1, r2⟩ := repMs2 R1
      cases e3
      exact ⟨v1, v2, rfl, q w1 H1 _ P1 S1 (((E.le P1.le).set i r1).set j r2)⟩
    | [], e3, R1 => cases e3
    | [_], e3, R1 => cases e3
    | _ :: _ :: _ :: _, e3, R1 => cases e3
theorem ps_par3M {i j l : Nat} {x y z : Str} {px py pz pt : Pos} {kt k2 : Nat} {pt2 : Pos} {fs : List Ev} (hc : X.calm = true) (hN : X.N.Nodup) (hi : X.N[i]? = some x) (hj : X.N[j]? = some y) (hl : X.N[l]? = some z) (hij : i ≠ j) (hil : i ≠ l) (hjl : j ≠ l)
    (hx : X.env.scope.names.lookup x = some .local) (hy : X.env.scope.names.lookup y = some .local) (hz : X.env.scope.names.lookup z = some .local) (ha : PA X [a, b, c] (tAs X.K (evAll fs)))
    (hw : swappedStores [.Tuple [.Name x px, .Name y py, .Name z pz] kt pt] (.Tuple [a, b, c] k2 pt2) X.env = pure (some [x, y, z]))
    (hs : swapsWithSole [.Tuple [.Name x px, .Name y py, .Name z pz] kt pt] (.Tuple [a, b, c] k2 pt2) pos.line X.env = pure false) :
    PS X (.Assign [.Tuple [.Name x px, .Name y py, .Name z pz] kt pt] (.Tuple [a, b, c] k2 pt2) pos) (tS X.K (esPar fs [egName i, egName j, egName l])) :=
  PS.wk (ps_par3 hc hN hi hj hl hij hil hjl hx hy hz ha hw hs) fun D σ H ⟨w, env, hp, o, env', hp', S, E, q0, q⟩ => by
    obtain ⟨p, e1, e2⟩ := Option.bind_eq_some_iff.mp q0
    obtain ⟨p2, e3, e4⟩ := Option.bind_eq_some_iff.mp e2
    cases e4
    refine ⟨w, env, hp, p.1, p.2, S, E, e1, fun w1 H1 vs P1 S1 R1 => ?_⟩
    obtain ⟨xs, hp1⟩ := p
    match xs, e3, R1 with
    | [x1, x2, x3], e3, .cons r1 R1 =>
      obtain ⟨v2, v3, rfl, r2, r3⟩ := repMs2 R1
      cases e3
      exact ⟨_, v2, v3, rfl, q w1 H1 _ P1 S1 ((((E.le P1.le).set i r1).set j r2).set l r3)⟩
    | [], e3, R1 => cases e3
    | [_], e3, R1 => cases e3
    | [_, _], e3, R1 => cases e3
    | _ :: _ :: _ :: _ :: _, e3, R1 => cases e3
theorem ps_exprM (he : PE X e (tE X.K f)) (hs : swapsWith e none pos.line X.env = pure false) : PS X (.Expr e pos) (tS X.K (esExpr f)) := PS.wk (ps_expr he hs) fun D σ H ⟨w, env, hp, o, env', hp', S, E, q0, q⟩ => by
  obtain ⟨p, e1, e2⟩ := Option.bind_eq_some_iff.mp q0
  cases e2
  exact ⟨w, env, hp, p.1, p.2, S, E, e1, fun w1 H1 v1 P1 S1 R1 => q w1 H1 σ P1 S1 (E.le P1.le)⟩
theorem ps_retM (he : PE X e (tE X.K f)) : PS X (.Return (some e) pos) (tS X.K (esRet f)) := PS.wk (ps_ret he) fun D σ H ⟨w, env, hp, o, env', hp', S, E, q0, q⟩ => by
  obtain ⟨p, e1, e2⟩ := Option.bind_eq_some_iff.mp q0
  cases e2
  exact ⟨w, env, hp, p.1, p.2, S, E, e1, q⟩
theorem ps_retNM : PS X (.Return none pos) (tS X.K esRetN) := PS.wk ps_retN fun D σ H ⟨w, env, hp, o, env', hp', S, E, q0, q⟩ => by
  cases q0
  exact q w H _ (Post.refl _ _) S .non
theorem ps_breakM : PS X (.Break pos) (tS X.K esBreak) := PS.wk ps_break fun D σ H ⟨w, env, hp, o, env', hp', S, E, q0, q⟩ => by
  cases q0
  exact q w H σ (Post.refl _ _) S E
theorem ps_contM : PS X (.Continue pos) (tS X.K esCont) := PS.wk ps_continue fun D σ H ⟨w, env, hp, o, env', hp', S, E, q0, q⟩ => by
  cases q0
  exact q w H σ (Post.refl _ _) S E
theorem tS_post {K : PySem.W.Frag} {fs : ES} {D : Ends} {σ : St} {w w1 : Wd} {H H1 : Hp} {env' : Me} {hp' : Mh} {o : Out} (P1 : Post w H w1 H1) {env1 : Me} {hp1 : Mh} (S1 : HSim K w1 H1 hp1) (E1 : EnvSim K w1 σ env1) (e : fs env1 hp1 = some (o, env', hp'))
    (q : Fin K w H env' hp' D o) : tS K fs D σ H1 := ⟨w1, env1, hp1, o, env', hp', S1, E1, e, q.trans P1⟩
theorem ps_ifM {t : Et} {p1 p2 : List Stmt} {fa fb : ES} (hc : PT X c (tB X.K t)) (ha : PSs X p1 (tS X.K fa)) (hb : PSs X p2 (tS X.K fb)) : PS X (.If c p1 p2 pos) (tS X.K (esIf t fa fb)) :=
  PS.wk (ps_if hc ha hb) fun D σ H ⟨w, env, hp, o, env', hp', S, E, q0, q⟩ => by
    obtain ⟨p, e1, e2⟩ := Option.bind_eq_some_iff.mp q0
    refine ⟨w, env, hp, p.1, p.2, S, E, e1, fun w1 H1 v1 P1 S1 R1 => ?_⟩
    subst R1
    split at e2
    · rename_i hb
      rw [if_pos hb]
      exact tS_post P1 S1 (E.le P1.le) e2 q
    · rename_i hb
      rw [if_neg hb]
      exact tS_post P1 S1 (E.le P1.le) e2 q
theorem ps_augM {i : Nat} {x : Str} {op : Operator} {o : MV → MV → Mh → Option R} {pos' : Pos} (hN : X.N.Nodup) (hi : X.N[i]? = some x) (hx : Loc X.env.scope x) (he : PE X e (tE X.K f)) (ho : OpR X (inplaceOp op) (rOp X.K o)) (hf : X.fn x = true ∨ X.env.scope.names.lookup x = some .local) :
    PS X (.AugAssign (.Name x pos') op e pos) (tS X.K (esAug i o f)) :=
  PS.wk (ps_aug (ti := rOp X.K o) hN hi hx he (fun pins s σ H x y v u Q I rx ry q => ho pins s σ H x y v u Q I rx ry q) hf) fun D σ H ⟨w, env, hp, oo, env', hp', S, E, q0, q⟩ => by
    unfold esAug at q0
    split at q0
    · rename_i y e0
      obtain ⟨p, e1, e2⟩ := Option.bind_eq_some_iff.mp q0
      obtain ⟨r, e3, e4⟩ := Option.bind_eq_some_iff.mp e2
      split at e4
      · cases e4
        obtain ⟨v, h1, h2⟩ := E.get i _ e0
        exact ⟨v, h1, w, env, hp, p.1, p.2, S, E, e1, fun w1 H1 v1 P1 S1 R1 => ⟨w1, p.2, y, p.1, _, S1, h2.le P1.le, R1, e3, fun w2 H2 v2 P2 S2 R2 => q w2 H2 _ (P1.trans P2) S2 ((E.le (P1.le.trans P2.le)).set i R2)⟩⟩
      · cases e4
    · cases q0
theorem whileM {K : PySem.W.Frag} {t : Et} {bd : ES} {D : Ends} {σ : St} {H : Hp} {w : Wd} {env : Me} {hp : Mh} {k : Nat} {o : Out} {env' : Me} {hp' : Mh} (S : HSim K w H hp) (E : EnvSim K w σ env) (e : goWhile t bd k env hp = some (o, env', hp'))
    (q : Fin K w H env' hp' D o) : tWhile (tB K t) (tS K bd) D σ H := by
  refine ⟨fun k σ1 H1 => ∃ w1 env1 hp1, Post w H w1 H1 ∧ HSim K w1 H1 hp1 ∧ EnvSim K w1 σ1 env1 ∧ goWhile t bd k env1 hp1 = some (o, env', hp'), ⟨k, w, env, hp, Post.refl _ _, S, E, e⟩, ?_⟩
  rintro m σ1 H1 ⟨w1, env1, hp1, P1, S1, E1, e1⟩
  cases m with
  | zero => cases e1
  | succ m =>
    obtain ⟨p, e2, e3⟩ := Option.bind_eq_some_iff.mp e1
    refine ⟨w1, env1, hp1, p.1, p.2, S1, E1, e2, fun w2 H2 v2 P2 S2 R2 => ?_⟩
    subst R2
    split at e3
    · rename_i hb
      rw [if_pos hb]
      obtain ⟨⟨o1, env3, hp3⟩, e4, e5⟩ := Option.bind_eq_some_iff.mp e3
      refine ⟨fun σ3 H3 => ∃ w3 env3 hp3, Post w H w3 H3 ∧ HSim K w3 H3 hp3 ∧ EnvSim K w3 σ3 env3 ∧ goWhile t bd m env3 hp3 = some (o, env', hp'), fun σ' H' hN => ⟨m, Nat.lt_succ_self m, hN⟩, w2, env1, p.2, o1, env3, hp3, S2, E1.le P2.le, e4, ?_⟩
      have P12 := P1.trans P2
      cases o1 with
      | nx => exact fun w3 H3 σ3 P3 S3 E3 => ⟨w3, env3, hp3, P12.trans P3, S3, E3, e5⟩
      | ct => exact fun w3 H3 σ3 P3 S3 E3 => ⟨w3, env3, hp3, P12.trans P3, S3, E3, e5⟩
      | bk => cases e5; exact fun w3 H3 σ3 P3 S3 E3 => q w3 H3 σ3 (P12.trans P3) S3 E3
      | rt x => cases e5; exact fun w3 H3 v P3 S3 R3 => q w3 H3 v (P12.trans P3) S3 R3
    · rename_i hb
      cases e3
      rw [if_neg hb]
      exact q w2 H2 σ1 (P1.trans P2) S2 (E1.le P2.le)
theorem ps_whileM {t : Et} {body : List Stmt} {fb : ES} (k : Nat) (hp : PassesOwn (model X.prog X.w) X.A X.env X.xe) (hc : PT X c (tB X.K t)) (hb : PSs X body (tS X.K fb)) : PS X (.While c body [] pos) (tS X.K (goWhile t fb k)) :=
  PS.wk (ps_while hp hc hb) fun D σ H ⟨w, env, hp, o, env', hp', S, E, q0, q⟩ => whileM S E q0 q
end
end L2.MP
/-! MiniPy G: what is walked; for; list comprehensions; methods of lists. -/
namespace L2.MP
open PySem PySem.Spec PyProof.Rows

structure SrcRep (K : PySem.W.Frag) (w : Wd) (s : Src) (J : It) : Prop where
  step : ∀ w1 H1 hp1 i x, Le w w1 → HSim K w1 H1 hp1 → s.at i hp1 = some x → J.go i H1 ∧ ∀ v H1', J.yld i H1 v H1' → ∃ w2, Post w1 H1 w2 H1' ∧ HSim K w2 H1' hp1 ∧ RepM K w2 x v
  stop : ∀ w1 H1 hp1, Le w w1 → HSim K w1 H1 hp1 → s.stop hp1 = true → J.stop s.size H1
def iG (K : PySem.W.Frag) (ei : Ei) : TI := fun σ H R => ∃ w env hp s hp', HSim K w H hp ∧ EnvSim K w σ env ∧ ei env hp = some (s, hp') ∧
  ∀ w' H' J, Post w H w' H' → HSim K w' H' hp' → SrcRep K w' s J → R J H'

section
variable {K : PySem.W.Frag}
theorem srcRep_list {w : Wd} {x : MV} {a : Addr} (r : RepM K w x (.ref a)) (hx : ∀ ds, x ≠ .d (.tuple ds)) (n : Nat) : SrcRep K w (.seq x n) (Itl K a) := by
  have key : ∀ w1 H1 hp1 xs, Le w w1 → HSim K w1 H1 hp1 → seqOf x hp1 = some xs → ∃ vs, SqL K H1 a vs ∧ RepMs K w1 xs vs := by
    intro w1 H1 hp1 xs l S e
    have e' : lstOf x hp1 = some xs := by
      unfold seqOf at e
      split at e
      · exact absurd rfl (hx _)
      · exact e
    obtain ⟨b, vs, h1, h2, h3⟩ := lstOf_sound S (r.le l) e'
    cases h1
    exact ⟨vs, h2, h3⟩
  refine ⟨fun w1 H1 hp1 i y l S e => ?_, fun w1 H1 hp1 l S e => ?_⟩
  · have e : (match seqOf x hp1 with | some xs => if xs.length = n then xs[i]? else none | none => none) = some y := e
    split at e
    · rename_i xs e1
      split at e
      · obtain ⟨vs, h1, h2⟩ := key w1 H1 hp1 xs l S e1
        obtain ⟨v, h3, h4⟩ := get_rep h2 e
        refine ⟨⟨vs, v, h1, h3⟩, fun u H1' hy => ?_⟩
        obtain ⟨rfl, hy⟩ := hy
        have := hy vs h1
        rw [h3] at this
        cases this
        exact ⟨w1, Post.refl _ _, S, h4⟩
      · cases e
    · cases e
  · have e : (match seqOf x hp1 with | some xs => decide (xs.length = n) | none => false) = true := e
    split at e
    · rename_i xs e1
      obtain ⟨vs, h1, h2⟩ := key w1 H1 hp1 xs l S e1
      exact ⟨vs, h1, by rw [← Paired.length h2, of_decide_eq_true e]; exact Nat.le_refl _⟩
    · cases e
theorem srcRep_tup {w : Wd} {ds : List PyData} {a : Addr} (r : RepM K w (.d (.tuple ds)) (.ref a)) (n : Nat) : SrcRep K w (.seq (.d (.tuple ds)) n) (Itt K a) := by
  have key : ∀ w1 H1 hp1 xs, Le w w1 → HSim K w1 H1 hp1 → seqOf (.d (.tuple ds)) hp1 = some xs → ∃ vs, SqT K H1 a vs ∧ RepMs K w1 xs vs := by
    intro w1 H1 hp1 xs l S e
    cases e
    cases RepM.le l r with
    | tup hs ha => exact ⟨_, sqT_same S.sub hs, repMs_of_dpAll ha⟩
  refine ⟨fun w1 H1 hp1 i y l S e => ?_, fun w1 H1 hp1 l S e => ?_⟩
  · have e : (match seqOf (.d (.tuple ds)) hp1 with | some xs => if xs.length = n then xs[i]? else none | none => none) = some y := e
    split at e
    · rename_i xs e1
      split at e
      · obtain ⟨vs, h1, h2⟩ := key w1 H1 hp1 xs l S e1
        obtain ⟨v, h3, h4⟩ := get_rep h2 e
        refine ⟨⟨vs, v, h1, h3⟩, fun u H1' hy => ?_⟩
        obtain ⟨rfl, hy⟩ := hy
        have := hy vs h1
        rw [h3] at this
        cases this
        exact ⟨w1, Post.refl _ _, S, h4⟩
      · cases e
    · cases e
  · have e : (match seqOf (.d (.tuple ds)) hp1 with | some xs => decide (xs.length = n) | none => false) = true := e
    split at e
    · rename_i xs e1
      obtain ⟨vs, h1, h2⟩ := key w1 H1 hp1 xs l S e1
      exact ⟨vs, h1, by rw [← Paired.length h2, of_decide_eq_true e]; exact Nat.le_refl _⟩
    · cases e
theorem srcRep_rng {w : Wd} (lo : Int) (n : Nat) : SrcRep K w (.rng lo n) (Itr lo n) := by
  refine ⟨fun w1 H1 hp1 i y l S e => ?_, fun w1 H1 hp1 l S e => Nat.le_refl _⟩
  have e : (if i < n then some (MV.d (.int (lo + (i : Int)))) else none) = some y := e
  split at e
  · rename_i hi
    cases e
    refine ⟨hi, fun u H1' hy => ?_⟩
    obtain ⟨rfl, rfl⟩ := hy
    exact ⟨w1, Post.refl _ _, S, .int _⟩
  · cases e
end

section
variable {X : Cx} {pos : Pos} {f g h : Ev} {a b c e tg : Expr}
theorem pi_seqM (ha : PE X a (tE X.K f)) : PI X tg a (iG X.K (eiSeq f)) := by
  refine ⟨fun pins s σ H R I ⟨w, env, hp, sr, hp', S, E, q0, q⟩ => ?_⟩
  obtain ⟨p, e1, e2⟩ := Option.bind_eq_some_iff.mp q0
  obtain ⟨xs, e3, e4⟩ := Option.bind_eq_some_iff.mp e2
  cases e4
  refine thn (ha.run pins s σ H (fun x H1 => ∃ w1, Post w H w1 H1 ∧ HSim X.K w1 H1 p.2 ∧ RepM X.K w1 p.1 x) I ⟨w, env, hp, p.1, p.2, S, E, e1, fun w1 H1 v1 P1 S1 R1 => ⟨w1, P1, S1, R1⟩⟩) fun v s1 ⟨x, H1, I1, r1, w1, P1, S1, R1⟩ => ?_
  obtain ⟨a', vs, e5, h1, h2⟩ := seqOf_sound S1 R1 e3
  subst e5
  cases r1
  by_cases hx : ∃ ds, p.1 = .d (.tuple ds)
  · obtain ⟨ds, hx⟩ := hx
    rw [hx] at R1 e3
    have hq : SqT X.K H1 a' vs := by
      rcases h1 with h1 | h1
      · cases R1 with
        | tup hs ha' =>
          have h4 := dpAll_length ha'
          obtain ⟨its, rv, ⟨o, n, e, c, _, d⟩, _⟩ := I1.list h1
          obtain ⟨its', rv', ⟨o', e', c', _⟩, _⟩ := I1.tuple (sqT_same S1.sub hs)
          rw [e] at e'
          cases e'
          rw [c] at c'
          injection c' with c''
          exact absurd c'' (by decide)
      · exact h1
    obtain ⟨its, rv, pt, hz⟩ := I1.tuple hq
    refine wpAny_pyIter_tuple (show s1.heap.IsTuple a' its.toArray from pt) ?_
    refine ⟨s1.heap.objs.size, [s1.heap.objs.size], _, _, H1, rfl, I1.kept (t' := s1.toks) fun b o e => Heap.get?_push_of_some _ e, turn_tuple a' _, ⟨_, Heap.get?_push_size _ rfl, rfl, rfl⟩, fun b hb => ?_, ?_⟩
    · have e : b = s1.heap.objs.size := by simpa using hb
      subst e
      exact I1.fpOk (Nat.le_refl _) (I1.hok.fresh (Nat.le_refl _))
    · refine q w1 H1 _ P1 S1 ?_
      rw [hx]
      exact srcRep_tup R1 _
  · have hx' : ∀ ds, p.1 ≠ .d (.tuple ds) := fun ds z => hx ⟨ds, z⟩
    have hq : ∃ vs, SqL X.K H1 a' vs := by
      unfold seqOf at e3
      split at e3
      · rename_i ds e6
        exact absurd e6 (hx' ds)
      · obtain ⟨b', vs', z1, z2, _⟩ := lstOf_sound S1 R1 e3
        cases z1
        exact ⟨vs', z2⟩
    obtain ⟨vs', hq⟩ := hq
    obtain ⟨its, rv, pt, hz⟩ := I1.list hq
    refine wpAny_pyIter_list pt.isList ?_
    refine ⟨s1.heap.objs.size, [s1.heap.objs.size], _, _, H1, rfl, I1.kept (t' := s1.toks) fun b o e => Heap.get?_push_of_some _ e, turn_list a' _, ⟨_, Heap.get?_push_size _ rfl, rfl, rfl⟩, fun b hb => ?_, ?_⟩
    · have e : b = s1.heap.objs.size := by simpa using hb
      subst e
      exact I1.fpOk (Nat.le_refl _) (I1.hok.fresh (Nat.le_refl _))
    · exact q w1 H1 _ P1 S1 (srcRep_list R1 hx' _)
theorem PI.wk {iter : Expr} {t t' : TI} (h : PI X tg iter t) (k : ∀ σ H R, t' σ H R → t σ H R) : PI X tg iter t' := ⟨fun pins s σ H R I q => h.run pins s σ H R I (k σ H R q)⟩
theorem rngOk_of {i : Int} (h : rngOk i = true) : -(2 ^ 62) ≤ i ∧ i < 2 ^ 62 := by
  unfold rngOk at h
  simpa using h
theorem pi_rng1M {p : Pos} (hg : Gl X "range") (hm : X.mg "range" = none) (ha : PA X [a] (tAs X.K (evAll [f]))) (hs : starEach [a] X.env = [(false, eval a X.env)]) : PI X tg (.Call (.Name "range" p) [a] [] pos) (iG X.K (eiRng1 f)) :=
  PI.wk (pi_range1 hg hm ha hs) fun σ H R ⟨w, env, hp, sr, hp', S, E, q0, q⟩ => by
    obtain ⟨p, e1, e2⟩ := Option.bind_eq_some_iff.mp q0
    obtain ⟨x, hp1⟩ := p
    split at e2
    · rename_i j e3
      split at e2
      · rename_i hj
        simp only [Option.some.injEq, Prod.mk.injEq] at e2
        obtain ⟨rfl, rfl⟩ := e2
        have e3 : x = .d (.int j) := e3
        subst e3
        refine ⟨w, env, hp, [.d (.int j)], hp1, S, E, by show (f env hp).bind _ = _; rw [e1]; rfl, fun w1 H1 vs P1 S1 R1 => ?_⟩
        obtain ⟨v, rfl, rv⟩ := repMs1 R1
        cases rv
        exact ⟨j, rfl, (rngOk_of hj).1, (rngOk_of hj).2, q w1 H1 _ P1 S1 (srcRep_rng _ _)⟩
      · cases e2
    · cases e2
theorem pi_rng2M {p : Pos} (hg : Gl X "range") (hm : X.mg "range" = none) (ha : PA X [a, b] (tAs X.K (evAll [f, g]))) (hs : starEach [a, b] X.env = [(false, eval a X.env), (false, eval b X.env)]) (hs2 : starEach [b] X.env = [(false, eval b X.env)]) :
    PI X tg (.Call (.Name "range" p) [a, b] [] pos) (iG X.K (eiRng2 f g)) :=
  PI.wk (pi_range2 hg hm ha hs hs2) fun σ H R ⟨w, env, hp, sr, hp', S, E, q0, q⟩ => by
    obtain ⟨⟨x, hp1⟩, e1, e2⟩ := Option.bind_eq_some_iff.mp q0
    obtain ⟨⟨y, hp2⟩, e3, e4⟩ := Option.bind_eq_some_iff.mp e2
    simp only at e4
    split at e4
    · rename_i i j
      split at e4
      · rename_i hj
        simp only [Option.some.injEq, Prod.mk.injEq] at e4
        obtain ⟨rfl, rfl⟩ := e4
        rw [Bool.and_eq_true] at hj
        refine ⟨w, env, hp, [.d (.int i), .d (.int j)], hp2, S, E, by show (f env hp).bind _ = _; rw [e1]; show (evAll [g] env hp1).bind _ = _; show ((g env hp1).bind _).bind _ = _; rw [e3]; rfl, fun w1 H1 vs P1 S1 R1 => ?_⟩
        obtain ⟨v, u, rfl, rv, ru⟩ := repMs2 R1
        cases rv
        cases ru
        exact ⟨i, j, rfl, ⟨(rngOk_of hj.1).1, (rngOk_of hj.1).2, (rngOk_of hj.2).1, (rngOk_of hj.2).2⟩, q w1 H1 _ P1 S1 (srcRep_rng _ _)⟩
      · cases e4
    · cases e4

/-! ### for -/
theorem forM {K : PySem.W.Frag} {L : List Nat} {s : Src} {J : It} {g : Eg} {bd : ES} {D : Ends} {σ : St} {H : Hp} {w : Wd} {env : Me} {hp : Mh} {o : Out} {env' : Me} {hp' : Mh} (SJ : SrcRep K w s J) (S : HSim K w H hp) (E : EnvSim K w σ env)
    (e : goFor s g bd s.size 0 env hp = some (o, env', hp')) (q : Fin K w H env' hp' D o) :
    ∃ W : Nat → Nat → St → Hp → Prop, (∃ m, W 0 m σ H) ∧ ∀ i m σ H, W i m σ H → (J.stop i H ∧ D.nx σ H) ∨ (J.go i H ∧ ∃ N : St → Hp → Prop, (∀ σ' H', N σ' H' → ∃ m', m' < m ∧ W (i + 1) m' σ' H') ∧ ∀ x H', J.yld i H x H' →
      tGt K L g x σ H' fun σ2 H2 => tS K bd { D with nx := N, ct := N, bk := D.nx } σ2 H2) := by
  refine ⟨fun i m σ1 H1 => i + m = s.size ∧ ∃ w1 env1 hp1, Post w H w1 H1 ∧ HSim K w1 H1 hp1 ∧ EnvSim K w1 σ1 env1 ∧ goFor s g bd m i env1 hp1 = some (o, env', hp'), ⟨s.size, Nat.zero_add _, w, env, hp, Post.refl _ _, S, E, e⟩, ?_⟩
  rintro i m σ1 H1 ⟨hi, w1, env1, hp1, P1, S1, E1, e1⟩
  cases m with
  | zero =>
    have e1 : (if s.stop hp1 = true then some (Out.nx, env1, hp1) else none) = some (o, env', hp') := e1
    split at e1
    · rename_i hs
      simp only [Option.some.injEq, Prod.mk.injEq] at e1
      obtain ⟨rfl, rfl, rfl⟩ := e1
      have : i = s.size := by omega
      subst this
      exact .inl ⟨SJ.stop w1 H1 hp1 P1.le S1 hs, q w1 H1 σ1 P1 S1 E1⟩
    · cases e1
  | succ m =>
    obtain ⟨x, e2, e3⟩ := Option.bind_eq_some_iff.mp e1
    obtain ⟨p, e4, e5⟩ := Option.bind_eq_some_iff.mp e3
    obtain ⟨⟨o1, env3, hp3⟩, e6, e7⟩ := Option.bind_eq_some_iff.mp e5
    obtain ⟨hgo, hy⟩ := SJ.step w1 H1 hp1 i x P1.le S1 e2
    refine .inr ⟨hgo, fun σ3 H3 => ∃ w3 env3 hp3, Post w H w3 H3 ∧ HSim K w3 H3 hp3 ∧ EnvSim K w3 σ3 env3 ∧ goFor s g bd m (i + 1) env3 hp3 = some (o, env', hp'), fun σ' H' hN => ⟨m, Nat.lt_succ_self m, by omega, hN⟩, fun v H' hv => ?_⟩
    obtain ⟨w2, P2, S2, R2⟩ := hy v H' hv
    have P12 := P1.trans P2
    refine ⟨w2, env1, hp1, x, p.1, p.2, S2, E1.le P2.le, R2, e4, fun w3 H3 σ3 P3 S3 E3 _ => ⟨w3, p.1, p.2, o1, env3, hp3, S3, E3, e6, ?_⟩⟩
    have P123 := P12.trans P3
    cases o1 with
    | nx => exact fun w4 H4 σ4 P4 S4 E4 => ⟨w4, env3, hp3, P123.trans P4, S4, E4, e7⟩
    | ct => exact fun w4 H4 σ4 P4 S4 E4 => ⟨w4, env3, hp3, P123.trans P4, S4, E4, e7⟩
    | bk => cases e7; exact fun w4 H4 σ4 P4 S4 E4 => q w4 H4 σ4 (P123.trans P4) S4 E4
    | rt x => cases e7; exact fun w4 H4 v P4 S4 R4 => q w4 H4 v (P123.trans P4) S4 R4
theorem ps_forM {L : List Nat} {iter : Expr} {body : List Stmt} {it : Ei} {gg : Eg} {fb : ES} (hp : PassesOwn (model X.prog X.w) X.A X.env X.xe) (hc : X.calm = true) (hi : PI X tg iter (iG X.K it)) (hg : PG X tg (tGt X.K L gg)) (hb : PSs X body (tS X.K fb))
    (hs : ∀ x, foldedSetIterable iter X.env x = pure x) : PS X (.For tg iter body [] pos) (tS X.K (esFor it gg fb)) :=
  PS.wk (ps_for hp hc hi hg hb hs) fun D σ H ⟨w, env, hp, o, env', hp', S, E, q0, q⟩ => by
    obtain ⟨⟨s, hp1⟩, e1, e2⟩ := Option.bind_eq_some_iff.mp q0
    exact ⟨w, env, hp, s, hp1, S, E, e1, fun w1 H1 J P1 S1 SJ => forM SJ S1 (E.le P1.le) e2 (q.trans P1)⟩

/-! ### list comprehensions -/
theorem wipeE_length (env : Me) : ∀ vs : List Nat, (wipeE env vs).length = env.length
  | [] => rfl
  | v :: vs => by unfold wipeE; rw [List.length_set, wipeE_length env vs]
theorem EnvSim.wipe {K : PySem.W.Frag} {w : Wd} {σ : St} {env : Me} (E : EnvSim K w σ env) : ∀ vs : List Nat, EnvSim K w (wipe σ vs) (wipeE env vs)
  | [] => E
  | v :: vs => by
    have ih := EnvSim.wipe E vs
    refine ⟨by rw [wipeE_length, wipe_length, E.len], fun i x e => ?_⟩
    unfold wipeE at e
    unfold L2.wipe
    by_cases hi : v = i
    · subst hi
      by_cases hv : v < (wipeE env vs).length
      · rw [List.getElem?_set_self hv] at e; cases e
      · rw [List.getElem?_eq_none (by simpa using hv)] at e; cases e
    · rw [List.getElem?_set_ne hi] at e
      rw [List.getElem?_set_ne hi]
      exact ih.get i x e
theorem wipe_get (σ : St) : ∀ (vs : List Nat) (i : Nat), (wipe σ vs)[i]? = if i ∈ vs ∧ i < σ.length then some none else σ[i]?
  | [], i => by simp [wipe]
  | v :: vs, i => by
    unfold wipe
    by_cases hi : v = i
    · subst hi
      by_cases hv : v < (wipe σ vs).length
      · rw [List.getElem?_set_self hv]
        rw [wipe_length] at hv
        simp [hv]
      · rw [List.getElem?_eq_none (by simpa using hv)]
        rw [wipe_length] at hv
        rw [if_neg (fun z => hv z.2), List.getElem?_eq_none (by omega)]
    · rw [List.getElem?_set_ne hi, wipe_get σ vs i]
      have : (i ∈ v :: vs) ↔ i ∈ vs := by simp [Ne.symm hi]
      simp [this]
theorem wipe_agr {L vs : List Nat} (hL : ∀ i ∈ L, i ∈ vs) {σ σ2 : St} (A : Agr L (wipe σ vs) σ2) : wipe σ2 vs = wipe σ vs := by
  apply List.ext_getElem?
  intro i
  have hl : σ2.length = σ.length := by rw [A.1, wipe_length]
  rw [wipe_get, wipe_get, hl]
  by_cases hi : i ∈ vs ∧ i < σ.length
  · rw [if_pos hi, if_pos hi]
  · rw [if_neg hi, if_neg hi]
    by_cases hv : i ∈ vs
    · have h2 : ¬ i < σ.length := fun z => hi ⟨hv, z⟩
      rw [List.getElem?_eq_none (by omega), List.getElem?_eq_none (by omega)]
    · have := A.2 i (fun z => hv (hL i z))
      rw [this, wipe_get, if_neg (fun z => hv z.1)]
/-- what is neither kept nor a cell may change -/
theorem HSim.other {K : PySem.W.Frag} {w : Wd} {H : Hp} {hp : Mh} (S : HSim K w H hp) {d : Addr} {o : HO} (hF : w.F d = none) (hm : d ∉ w.mu) : HSim K w (upd H d o) hp where
  sub := fun b u e => by
    have hb : b ≠ d := fun z => by subst z; rw [hF] at e; cases e
    rw [upd_ne hb]
    exact S.sub b u e
  len := S.len
  nd := S.nd
  trk := fun b hb => by
    have hb' : b ≠ d := fun z => hm (z ▸ hb)
    rw [upd_ne hb']
    exact S.trk b hb
  cell := fun n c h => by
    obtain ⟨b, h1, h2⟩ := S.cell n c h
    refine ⟨b, h1, ?_⟩
    have hb' : b ≠ d := fun z => hm (z ▸ List.mem_of_getElem? h1)
    cases c with
    | lst ys =>
      obtain ⟨p1, us, p2, p3⟩ := h2
      exact ⟨p1, us, by rw [upd_ne hb']; exact p2, p3⟩
    | dct _ => exact h2
    | frz x => exact h2
theorem Post.at {w w1 : Wd} {H H1 : Hp} (P : Post w H w1 H1) {d : Addr} {o : HO} (hn : H d = none) : Post w H w1 (upd H1 d o) :=
  ⟨P.le, P.new, P.newF, fun b u e hb => by rw [upd_ne (ne_of_none e hn)]; exact P.fr b u e hb⟩
theorem lcM {K : PySem.W.Frag} {L vs : List Nat} {it : Ei} {gg : Eg} {t : Et} (hL : ∀ i ∈ L, i ∈ vs) {σ : St} {H : Hp} {Q : VK} (h : tR K (evLc it gg t f vs) σ H Q) :
    tLc (iG K it) (tGt K L gg) (tB K t) (tE K f) vs σ H Q := by
  obtain ⟨w, env, hp, r, hp', S, E, q0, q⟩ := h
  obtain ⟨⟨s, hp1⟩, e1, e2⟩ := Option.bind_eq_some_iff.mp q0
  obtain ⟨⟨accF, hpF⟩, e3, e4⟩ := Option.bind_eq_some_iff.mp e2
  simp only [Option.some.injEq, Prod.mk.injEq] at e4
  obtain ⟨rfl, rfl⟩ := e4
  refine ⟨w, env, hp, s, hp1, S, E, e1, fun w0 H0 J P0 S0 SJ => fun d hd => ?_⟩
  have E0 := E.le P0.le
  -- Post is told from H0, ahead of the new list
  refine ⟨fun i m H1 => i + m = s.size ∧ ∃ w1 hp1 acc us, Post w0 H0 w1 H1 ∧ HSim K w1 H1 hp1 ∧ w1.F d = none ∧ d ∉ w1.mu ∧ H1 d = some (.lst us) ∧ RepMs K w1 acc us ∧ goLc s gg t f (wipeE env vs) m i acc hp1 = some (accF, hpF),
    ⟨s.size, Nat.zero_add _, w0, hp1, [], [], (Post.refl _ _).at hd, S0.other (S0.fresh_F hd) (S0.fresh_mu hd), S0.fresh_F hd, S0.fresh_mu hd, upd_same, .nil, e3⟩, ?_⟩
  rintro i m H1 ⟨hi, w1, hp2, acc, us, P1, S1, hF1, hm1, hd1, R1, e5⟩
  cases m with
  | zero =>
    have e5 : (if s.stop hp2 = true then some (acc, hp2) else none) = some (accF, hpF) := e5
    split at e5
    · rename_i hs
      simp only [Option.some.injEq, Prod.mk.injEq] at e5
      obtain ⟨rfl, rfl⟩ := e5
      have : i = s.size := by omega
      subst this
      have hHd : H d = none := by
        cases z : H d with
        | none => rfl
        | some o =>
          have hdm : d ∉ w.mu := fun zz => hm1 (P1.le.mem (P0.le.mem zz))
          rw [P0.fr d o z hdm] at hd
          cases hd
      exact .inl ⟨SJ.stop w1 H1 _ P1.le S1 hs, q w1 H1 _ (P0.trans P1) S1 ⟨d, us, rfl, hHd, hF1, hm1, hd1, R1⟩⟩
    · cases e5
  | succ m =>
    obtain ⟨x, e6, e7⟩ := Option.bind_eq_some_iff.mp e5
    obtain ⟨p, e8, e9⟩ := Option.bind_eq_some_iff.mp e7
    obtain ⟨⟨b, hp3⟩, e10, e11⟩ := Option.bind_eq_some_iff.mp e9
    obtain ⟨hgo, hy⟩ := SJ.step w1 H1 hp2 i x P1.le S1 e6
    refine .inr ⟨hgo, fun H3 => ∃ w3 hp3 acc us, Post w0 H0 w3 H3 ∧ HSim K w3 H3 hp3 ∧ w3.F d = none ∧ d ∉ w3.mu ∧ H3 d = some (.lst us) ∧ RepMs K w3 acc us ∧ goLc s gg t f (wipeE env vs) m (i + 1) acc hp3 = some (accF, hpF),
      fun H' hN => ⟨m, Nat.lt_succ_self m, by omega, hN⟩, fun v H' hv => ?_⟩
    obtain ⟨w2, P2, S2, R2⟩ := hy v H' hv
    -- d stays as it is through a turn
    have stay : ∀ {w3 : Wd} {H3 : Hp}, Post w1 H1 w3 H3 → w3.F d = none ∧ d ∉ w3.mu ∧ H3 d = some (.lst us) := by
      intro w3 H3 P
      refine ⟨?_, fun z => ?_, P.fr d _ hd1 hm1⟩
      · cases z : w3.F d with
        | none => rfl
        | some o =>
          rcases P.newF d (by rw [z]; simp) with z | z | z
          · exact absurd hF1 z
          · exact absurd z hm1
          · rw [hd1] at z; cases z
      · rcases P.new d z with z | z
        · exact hm1 z
        · rw [hd1] at z; cases z
    have E1 : EnvSim K w1 (wipe σ vs) (wipeE env vs) := (E0.le P1.le).wipe vs
    refine ⟨w2, wipeE env vs, hp2, x, p.1, p.2, S2, E1.le P2.le, R2, e8, fun w3 H3 σ3 P3 S3 E3 A3 => ⟨wipe_agr hL A3, ?_⟩⟩
    refine ⟨w3, p.1, p.2, b, hp3, S3, E3, e10, fun w4 H4 b' P4 S4 R4 => ?_⟩
    subst R4
    have P14 : Post w1 H1 w4 H4 := P2.trans (P3.trans P4)
    split at e11
    · rename_i hb
      rw [if_pos hb]
      obtain ⟨⟨y, hp5⟩, e12, e13⟩ := Option.bind_eq_some_iff.mp e11
      refine ⟨w4, p.1, hp3, y, hp5, S4, E3.le P4.le, e12, fun w5 H5 yv P5 S5 R5 => ?_⟩
      obtain ⟨f5, m5, d5⟩ := stay (P14.trans P5)
      split at e13
      · rename_i hz
        exact ⟨us, d5, by rw [← Paired.length R1]; exact hz, w5, hp5, acc ++ [y], us ++ [yv], (P1.trans (P14.trans P5)).at hd, S5.other f5 m5, f5, m5, upd_same, repMs_append (RepMs.le (P14.trans P5).le R1) (.cons R5 .nil), e13⟩
      · cases e13
    · rename_i hb
      rw [if_neg hb]
      obtain ⟨f4, m4, d4⟩ := stay P14
      exact ⟨w4, hp3, acc, us, P1.trans P14, S4, f4, m4, d4, RepMs.le P14.le R1, e11⟩
theorem pe_lcM {L : List Nat} {elt iter : Expr} {ifs : List Expr} {scope : Scope} {own : List (Str × Nat)} {it : Ei} {gg : Eg} {t : Et} (hc : X.calm = true) (hN : X.N.Nodup) (hi : PI X tg iter (iG X.K it)) (ok : BlkOk X.N X.env.scope scope own) (hL : ∀ i ∈ L, i ∈ own.map (·.2))
    (hg : ∀ (s : Shared) (H : Hp) (C : Addr) (cl : List (Str × Addr)) (fp : List Addr), PG (X.blk s H scope (compEnvC scope cl C X.env) fp) tg (tGt X.K L gg)) (ht : ∀ (s : Shared) (H : Hp) (C : Addr) (cl : List (Str × Addr)) (fp : List Addr), PTs (X.blk s H scope (compEnvC scope cl C X.env) fp) ifs (tB X.K t))
    (he : ∀ (s : Shared) (H : Hp) (C : Addr) (cl : List (Str × Addr)) (fp : List Addr), PE (X.blk s H scope (compEnvC scope cl C X.env) fp) elt (tE X.K f)) (hs : ∀ x, foldedSetIterable iter X.env x = pure x) :
    PE X (.ListComp elt [⟨tg, iter, ifs, 0⟩] scope pos) (tR X.K (evLc it gg t f (own.map (·.2)))) := PE.wk (pe_lc hc hN hi ok hg ht he hs) fun σ H Q h => lcM hL h
theorem tE_st {K : PySem.W.Frag} {fr : Er} {te : TE} (h : ∀ σ H Q, tR K fr σ H Q → te σ H Q) : ∀ σ H Q, tE K (evSt fr) σ H Q → te σ H Q := fun σ H Q q => h σ H Q (by
  obtain ⟨w, env, hp, x, hp', S, E, q0, q⟩ := q
  obtain ⟨⟨r, hp1⟩, e1, e2⟩ := Option.bind_eq_some_iff.mp q0
  refine ⟨w, env, hp, r, hp1, S, E, e1, fun w1 H1 v P1 S1 R1 => ?_⟩
  cases r with
  | v y =>
    simp only [Option.some.injEq, Prod.mk.injEq] at e2
    obtain ⟨rfl, rfl⟩ := e2
    exact q w1 H1 v P1 S1 R1
  | l xs =>
    obtain ⟨ds, e3, e4⟩ := Option.bind_eq_some_iff.mp e2
    cases e4
    obtain ⟨p, vs, rfl, hn, hF, hm, hH, hr⟩ := R1
    obtain ⟨S2, l⟩ := S1.put hH hF hm
    refine q _ H1 _ ⟨P1.le.trans l, P1.new, fun b hb => ?_, P1.fr⟩ S2 (.lst (.of upd_same) (DpAll.same l.F _ _ (dpAll_of_repMs hr e3)))
    by_cases hbp : b = p
    · subst hbp; exact .inr (.inr hn)
    · have hb' : upd w1.F p (.lst vs) b ≠ none := hb
      rw [upd_ne hbp] at hb'
      exact P1.newF b hb')
theorem tE_mk {K : PySem.W.Frag} {fr : Er} {te : TE} (h : ∀ σ H Q, tR K fr σ H Q → te σ H Q) : ∀ σ H Q, tE K (evMk fr) σ H Q → te σ H Q := fun σ H Q q => h σ H Q (by
  obtain ⟨w, env, hp, x, hp', S, E, q0, q⟩ := q
  obtain ⟨⟨r, hp1⟩, e1, e2⟩ := Option.bind_eq_some_iff.mp q0
  refine ⟨w, env, hp, r, hp1, S, E, e1, fun w1 H1 v P1 S1 R1 => ?_⟩
  cases r with
  | v y => cases e2
  | l xs =>
    simp only [Option.some.injEq, Prod.mk.injEq] at e2
    obtain ⟨rfl, rfl⟩ := e2
    obtain ⟨p, vs, rfl, hn, hF, hm, hH, hr⟩ := R1
    obtain ⟨S2, l⟩ := S1.alloc hH hF hm hr
    refine q _ H1 _ ⟨P1.le.trans l, fun b hb => ?_, P1.newF, P1.fr⟩ S2 ⟨p, ?_, rfl⟩
    · rcases List.mem_append.mp hb with hb | hb
      · exact P1.new b hb
      · have : b = p := by simpa using hb
        subst this
        exact .inr hn
    · show (w1.mu ++ [p])[hp1.length]? = some p
      rw [← S1.len, List.getElem?_append_right (Nat.le_refl _)]
      simp)
/-- y = [..] on one line -/
theorem ps_setLcM {L : List Nat} {i : Nat} {y : Str} {py : Pos} {elt iter : Expr} {ifs : List Expr} {scope : Scope} {own : List (Str × Nat)} {spos : Pos} {it : Ei} {gg : Eg} {t : Et} {fe : Ev} (hc : X.calm = true) (hN : X.N.Nodup) (hy : X.N[i]? = some y) (hyl : X.env.scope.names.lookup y = some .local)
    (hsw : swapsWith (.ListComp elt [⟨tg, iter, ifs, 0⟩] scope pos) (some (.Name y py)) spos.line X.env = pure true) (hi : PI X tg iter (iG X.K it)) (ok : BlkOk X.N X.env.scope scope own) (hL : ∀ i ∈ L, i ∈ own.map (·.2))
    (hg : ∀ (s : Shared) (H : Hp) (C : Addr) (cl : List (Str × Addr)) (fp : List Addr), PG (X.blk s H scope (compEnvC scope cl C X.env) fp) tg (tGt X.K L gg)) (ht : ∀ (s : Shared) (H : Hp) (C : Addr) (cl : List (Str × Addr)) (fp : List Addr), PTs (X.blk s H scope (compEnvC scope cl C X.env) fp) ifs (tB X.K t))
    (he : ∀ (s : Shared) (H : Hp) (C : Addr) (cl : List (Str × Addr)) (fp : List Addr), PE (X.blk s H scope (compEnvC scope cl C X.env) fp) elt (tE X.K f)) (hs : ∀ x, foldedSetIterable iter X.env x = pure x)
    (hfe : fe = evSt (evLc it gg t f (own.map (·.2))) ∨ fe = evMk (evLc it gg t f (own.map (·.2)))) :
    PS X (.Assign [.Name y py] (.ListComp elt [⟨tg, iter, ifs, 0⟩] scope pos) spos) (tS X.K (esAsg fe (egName i))) :=
  PS.wk (ps_setLc hc hN hy hyl hsw hi ok hg ht he hs) fun D σ H h => asgM (L := [i]) (by
    rcases hfe with rfl | rfl
    · exact tE_st fun σ H Q q => lcM hL q
    · exact tE_mk fun σ H Q q => lcM hL q) gNameM h
theorem pts_nilM : PTs X [] (tB X.K etYes) := ⟨fun pins s σ H Q I ⟨w, env, hp, b, hp', S, E, q0, q⟩ => pts_nil.run pins s σ H Q I (by cases q0; exact q w H _ (Post.refl _ _) S rfl)⟩
theorem pts_oneM {t : Et} (h : PT X c (tB X.K t)) : PTs X [c] (tB X.K t) := pts_one h
end
end L2.MP
/-! MiniPy H: methods of lists; isinstance; all, any. -/
namespace L2.MP
open PySem PySem.Spec PyProof.Rows

/-! ### methods -/
abbrev Mt := MV → List MV → Mh → Option (MV × Mh)
def rMt (K : PySem.W.Frag) (op : Mt) : V → List V → Hp → VK → Prop := fun x xs H Q => ∃ w hp a as r hp', HSim K w H hp ∧ RepM K w a x ∧ RepMs K w as xs ∧ op a as hp = some (r, hp') ∧
  ∀ w' H' v, Post w H w' H' → HSim K w' H' hp' → RepM K w' r v → Q v H'
/-- o.m(..), o a list -/
def evMt (op : Mt) (f : Ev) (fs : List Ev) : Ev := fun env hp => (f env hp).bind fun p => (lstOf p.1 p.2).bind fun _ => (evAll fs env p.2).bind fun q => op p.1 q.1 q.2
def appendM : Mt := fun a as hp =>
  match a, as with
  | .c n, [.d y] => match hp[n]? with
    | some (.lst xs) => if xs.length < sizeLine then some (.d .none, hp.set n (.lst (xs ++ [.d y]))) else none
    | _ => none
  | _, _ => none
def popM : Mt := fun a as hp =>
  match a, as with
  | .c n, [] => match hp[n]? with
    | some (.lst xs) => match xs[xs.length - 1]? with
      | some y => some (y, hp.set n (.lst xs.dropLast))
      | none => none
    | _ => none
  | _, _ => none
def popAtM : Mt := fun a as hp =>
  match a, as with
  | .c n, [.d (.int i)] => match hp[n]? with
    | some (.lst xs) => if -(2 ^ 63) ≤ i ∧ i < 2 ^ 63 then match seqIndex? i xs.length with
      | some k => match xs[k]? with
        | some y => some (y, hp.set n (.lst (xs.eraseIdx k)))
        | none => none
      | none => none
      else none
    | _ => none
  | _, _ => none
def removeM : Mt := fun a as hp =>
  match a, as with
  | .c n, [.d y] => match hp[n]? with
    | some (.lst xs) => match datas xs with
      | some ds => match SeqAt.dataPlace ds y with
        | some j => if dOk y then some (.d .none, hp.set n (.lst (xs.eraseIdx j))) else none
        | none => none
      | none => none
    | _ => none
  | _, _ => none

section
variable {X : Cx}
theorem cell_lst {K : PySem.W.Frag} {w : Wd} {H : Hp} {hp : Mh} (S : HSim K w H hp) {n : Nat} {xs : List MV} (hn : hp[n]? = some (.lst xs)) {a : Addr} (ha : w.mu[n]? = some a) :
    ∃ vs, H a = some (.lst vs) ∧ RepMs K w xs vs ∧ ∀ j, MV.c j ∈ xs → j < n := by
  obtain ⟨b, h1, h2⟩ := S.cell n _ hn
  rw [ha] at h1
  cases h1
  exact ⟨h2.2.choose, h2.2.choose_spec⟩
theorem ok_append : MtR X "list.append" (rMt X.K appendM) := by
  intro pins s σ H x xs v us Q I rx rs h
  obtain ⟨w, hp, a, as, r, hp', S, ra, ras, e, q⟩ := h
  unfold appendM at e
  split at e
  · rename_i n y
    split at e
    · rename_i ys hn
      split at e
      · rename_i hz
        cases e
        obtain ⟨p, hp1, rfl⟩ := ra
        obtain ⟨z, rfl, rz⟩ := repMs1 ras
        obtain ⟨vs, h1, h2, h3⟩ := cell_lst S hn hp1
        obtain ⟨S1, P1, _⟩ := S.setc hn hp1 (repMs_append h2 (.cons rz .nil)) (fun j hj => by
          rcases List.mem_append.mp hj with hj | hj
          · exact h3 j hj
          · simp at hj)
        exact mt_append pins s σ H _ _ v us Q I rx rs ⟨p, vs, z, rfl, rfl, h1, by rw [← Paired.length h2]; exact hz, q w _ _ P1 S1 .non⟩
      · cases e
    · cases e
  · cases e
theorem repMs_dropLast {K : PySem.W.Frag} {w : Wd} : ∀ {ds : List MV} {vs : List V}, RepMs K w ds vs → RepMs K w ds.dropLast vs.dropLast := fun {ds vs} h => by
  rw [List.dropLast_eq_take, List.dropLast_eq_take, Paired.length h]
  exact repMs_take _ h
theorem repMs_erase {K : PySem.W.Frag} {w : Wd} : ∀ {ds : List MV} {vs : List V} (i : Nat), RepMs K w ds vs → RepMs K w (ds.eraseIdx i) (vs.eraseIdx i)
  | _, _, _, .nil => .nil
  | _, _, 0, .cons _ t => t
  | _, _, i + 1, .cons p t => .cons p (repMs_erase i t)
theorem ok_pop : MtR X "list.pop" (rMt X.K popM) := by
  intro pins s σ H x xs v us Q I rx rs h
  obtain ⟨w, hp, a, as, r, hp', S, ra, ras, e, q⟩ := h
  unfold popM at e
  split at e
  · rename_i n
    split at e
    · rename_i ys hn
      split at e
      · rename_i y hy
        cases e
        obtain ⟨p, hp1, rfl⟩ := ra
        cases ras
        obtain ⟨vs, h1, h2, h3⟩ := cell_lst S hn hp1
        obtain ⟨S1, P1, _⟩ := S.setc hn hp1 (repMs_dropLast h2) (fun j hj => h3 j (List.dropLast_subset _ hj))
        obtain ⟨z, h4, h5⟩ := get_rep h2 hy
        exact mt_pop pins s σ H _ _ v us Q I rx rs ⟨p, vs, z, rfl, rfl, h1, by rw [← Paired.length h2]; exact h4, q w _ _ P1 S1 h5⟩
      · cases e
    · cases e
  · cases e
theorem ok_popAt : MtR X "list.pop" (rMt X.K popAtM) := by
  intro pins s σ H x xs v us Q I rx rs h
  obtain ⟨w, hp, a, as, r, hp', S, ra, ras, e, q⟩ := h
  unfold popAtM at e
  split at e
  · rename_i n i
    split at e
    · rename_i ys hn
      split at e
      · rename_i hi
        split at e
        · rename_i k hk
          split at e
          · rename_i y hy
            cases e
            obtain ⟨p, hp1, rfl⟩ := ra
            obtain ⟨z, rfl, rz⟩ := repMs1 ras
            cases rz
            obtain ⟨vs, h1, h2, h3⟩ := cell_lst S hn hp1
            obtain ⟨S1, P1, _⟩ := S.setc hn hp1 (repMs_erase k h2) (fun j hj => h3 j (List.eraseIdx_subset hj))
            obtain ⟨z, h4, h5⟩ := get_rep h2 hy
            exact mt_popAt pins s σ H _ _ v us Q I rx rs ⟨p, vs, i, k, z, rfl, rfl, h1, hi.1, hi.2, by rw [← Paired.length h2]; exact hk, h4, q w _ _ P1 S1 h5⟩
          · cases e
        · cases e
      · cases e
    · cases e
  · cases e
theorem ok_remove (hu : X.A.units + 65 < cLine) : MtR X "list.remove" (rMt X.K removeM) := by
  intro pins s σ H x xs v us Q I rx rs h
  obtain ⟨w, hp, a, as, r, hp', S, ra, ras, e, q⟩ := h
  unfold removeM at e
  split at e
  · rename_i n y
    split at e
    · rename_i ys hn
      split at e
      · rename_i ds hd
        split at e
        · rename_i j hj
          split at e
          · rename_i hok
            cases e
            obtain ⟨p, hp1, rfl⟩ := ra
            obtain ⟨z, rfl, rz⟩ := repMs1 ras
            obtain ⟨u, rfl, ru⟩ := rs.one
            cases rx
            obtain ⟨vs, h1, h2, h3⟩ := cell_lst S hn hp1
            obtain ⟨S1, P1, _⟩ := S.setc hn hp1 (repMs_erase j h2) (fun j hj => h3 j (List.eraseIdx_subset hj))
            obtain ⟨z1, its, m, ri, hl, eo⟩ := I.lstM h1
            have D := DpAll.same S.sub _ _ (dpAll_of_repMs h2 hd)
            obtain ⟨as1, r1⟩ := Dp.readsAll I ds vs its D ri
            obtain ⟨bs1, r2⟩ := Dp.reads I y z u (Dp.same S.sub _ _ rz) ru
            have hz : its.toArray.size ≤ sizeLine := by rw [List.size_toArray, ← hl]; exact z1
            refine SeqAt.remove_list_data (vs := its.toArray) ⟨_, eo, rfl, _, rfl⟩ (by simpa using r1) r2 (DpAll.plain _ _ D) (Dp.plain _ _ (Dp.same S.sub _ _ rz)) (min_dOk1 hok hu) hj hz ?_
            refine ⟨.non, _, I.lset (its' := its.eraseIdx j) h1 eo ?_ (ri.eraseIdx j) (Nat.le_trans (len_erase _ _) z1), rfl, q w _ _ P1 S1 .non⟩
            simp
          · cases e
        · cases e
      · cases e
    · cases e
  · cases e
theorem mtM {K : PySem.W.Frag} {op : Mt} {f : Ev} {fs : List Ev} {σ : St} {H : Hp} {Q : VK} (h : tE K (evMt op f fs) σ H Q) : tBM K "list" (rMt K op) (tE K f) (tAs K (evAll fs)) σ H Q := by
  obtain ⟨w, env, hp, x, hp', S, E, q0, q⟩ := h
  obtain ⟨p, e1, e2⟩ := Option.bind_eq_some_iff.mp q0
  obtain ⟨xs, e3, e4⟩ := Option.bind_eq_some_iff.mp e2
  obtain ⟨p2, e5, e6⟩ := Option.bind_eq_some_iff.mp e4
  refine ⟨w, env, hp, p.1, p.2, S, E, e1, fun w1 H1 v1 P1 S1 R1 => ⟨?_, w1, env, p.2, p2.1, p2.2, S1, E.le P1.le, e5, fun w2 H2 vs P2 S2 R2 => ⟨w2, p2.2, p.1, p2.1, x, hp', S2, R1.le P2.le, R2, e6, fun w3 H3 v P3 S3 R3 => q w3 H3 v (P1.trans (P2.trans P3)) S3 R3⟩⟩⟩
  obtain ⟨a, us, rfl, h1, _⟩ := lstOf_sound S1 R1 e3
  exact .inl ⟨rfl, us, h1⟩
theorem pe_mtM {o e : Expr} {es : List Expr} {name : Str} {id : String} {apos cpos : Pos} {op : Mt} {f : Ev} {fs : List Ev} (slot : Slot "list" name id) (hty : typeOf (.builtin id) = pure (.type "method_descriptor")) (hm : MtR X id (rMt X.K op)) (ho : PE X o (tE X.K f)) (ha : PA X (e :: es) (tAs X.K (evAll fs)))
    (hbase : attributeBase o name X.env (eval o X.env) = eval o X.env)
    (hfew : ((backTo cpos (starEach (e :: es) X.env)).all (fun x => !x.1) && (backToKw cpos (keywordEach [] X.env)).all (fun x => x.1.isSome)
      && decide ((e :: es).length + ([] : List Keyword).length + (if ([] : List Keyword).isEmpty then 0 else 1) < 30)) = true)
    (hline : (apos.endLine == cpos.line) = true) (hs : starEach (e :: es) X.env = (false, eval e X.env) :: starEach es X.env) (hplain : (backTo cpos (starEach es X.env)).any (·.1) = false) :
    PE X (.Call (.Attribute o name apos) (e :: es) [] cpos) (tE X.K (evMt op f fs)) :=
  PE.wk (pe_bm PySem.F.plainAttrs_list slot hty hm ho ha hbase hfew hline hs hplain) fun σ H Q h => mtM h
theorem pe_mtM0 {o : Expr} {name : Str} {id : String} {apos cpos : Pos} {op : Mt} {f : Ev} (slot : Slot "list" name id) (hty : typeOf (.builtin id) = pure (.type "method_descriptor")) (hm : MtR X id (rMt X.K op)) (ho : PE X o (tE X.K f))
    (hbase : attributeBase o name X.env (eval o X.env) = eval o X.env) (hline : (apos.endLine == cpos.line) = true) :
    PE X (.Call (.Attribute o name apos) [] [] cpos) (tE X.K (evMt op f [])) :=
  PE.wk (pe_bm0 PySem.F.plainAttrs_list slot hty hm ho hbase hline) fun σ H Q h => by
    obtain ⟨w, env, hp, x, hp', S, E, e, q⟩ := mtM h
    refine ⟨w, env, hp, x, hp', S, E, e, fun w1 H1 v1 P1 S1 R1 => ?_⟩
    obtain ⟨ty, w2, env2, hp2, xs, hp3, S2, E2, e2, q2⟩ := q w1 H1 v1 P1 S1 R1
    cases e2
    exact ⟨ty, q2 w2 H1 [] (Post.refl _ _) S2 .nil⟩

/-! ### isinstance -/
def tyL (a : MV) (hp : Mh) : Option String := match lstOf a hp with
  | some _ => some "list"
  | none => none
def tyM (a : MV) (hp : Mh) : Option String :=
  match a with
  | .d .none => some "NoneType"
  | .d (.bool _) => some "bool"
  | .d (.int _) => some "int"
  | .d (.str _) => some "str"
  | .d (.tuple _) => some "tuple"
  | a => tyL a hp
/-- one built-in type under another -/
def subT (a b : String) : Option Bool :=
  if a = b then some true else if a = "bool" ∧ b = "int" then some true
  else if (a = "NoneType" ∨ a = "bool" ∨ a = "int" ∨ a = "str" ∨ a = "tuple" ∨ a = "list") ∧ (b = "bool" ∨ b = "int" ∨ b = "str" ∨ b = "tuple" ∨ b = "list") then some false else none
theorem subT_kit {a b : String} {k : Bool} (h : subT a b = some k) : kitB a b = some k := by
  unfold subT at h
  split at h
  · rename_i e
    subst e
    cases h
    unfold kitB
    rw [if_pos (by simp)]
  · split at h
    · rename_i e
      obtain ⟨rfl, rfl⟩ := e
      cases h
      decide +kernel
    · split at h
      · rename_i hn _ hab
        cases h
        obtain ⟨ha, hb⟩ := hab
        rcases ha with rfl | rfl | rfl | rfl | rfl | rfl <;> rcases hb with rfl | rfl | rfl | rfl | rfl <;> first | exact absurd rfl hn | decide +kernel | (rename_i h2; exact absurd ⟨rfl, rfl⟩ h2)
      · cases h
def anyT (a : String) : List String → Option Bool
  | [] => some false
  | b :: r => match subT a b with
    | some true => some true
    | some false => anyT a r
    | none => none
theorem anyT_kit {K : PySem.W.Frag} {a : String} {k : Bool} : ∀ {ts : List String}, anyT a ts = some k → PySem.W.kitAny K (.type a) (ts.map Value.type) = some k
  | [], h => h
  | b :: r, h => by
    unfold anyT at h
    show (match PySem.W.kitOne K (.type a) (.type b) with | some true => some true | some false => PySem.W.kitAny K (.type a) (r.map Value.type) | none => none) = some k
    split at h
    · rename_i e
      rw [kit_ty (K := K) (subT_kit e)]
      exact h
    · rename_i e
      rw [kit_ty (K := K) (subT_kit e)]
      exact anyT_kit h
    · cases h
def evIsi (f : Ev) (ts : List String) : Ev := fun env hp => (f env hp).bind fun p => (tyM p.1 p.2).bind fun t => (anyT t ts).bind fun b => some (.d (.bool b), p.2)
theorem tyX_list {K : PySem.W.Frag} {H : Hp} {a : Addr} {vs : List V} (h : SqL K H a vs) : TyX K H (.ref a) (.type "list") := by
  rcases h with (h | ⟨o, h⟩) | ⟨o, its, n, h1, h2, _⟩
  · exact .base (.lst h)
  · exact .base (.frz h)
  · exact .kList h1 h2
theorem tyX_tup {K : PySem.W.Frag} {H : Hp} {a : Addr} {vs : List V} (h : SqT K H a vs) : TyX K H (.ref a) (.type "tuple") := by
  rcases h with (h | ⟨o, h⟩) | ⟨o, its, n, h1, h2, _⟩
  · exact .base (.tup h)
  · exact .fTuple h
  · exact .kTuple h1 h2
theorem tyM_ok {K : PySem.W.Frag} {w : Wd} {H : Hp} {hp : Mh} (S : HSim K w H hp) {a : MV} {x : V} (r : RepM K w a x) {t : String} (e : tyM a hp = some t) : TyX K H x (.type t) := by
  unfold tyM at e
  split at e
  · cases e; cases r; exact .base .non
  · cases e; cases r; exact .base (.bl _)
  · cases e; cases r; exact .base (.int _)
  · cases e; cases r; exact .base (.str _)
  · cases e
    cases r with
    | tup hs _ => exact tyX_tup (sqT_same S.sub hs)
  · unfold tyL at e
    split at e
    · rename_i xs e1
      cases e
      obtain ⟨p, vs, rfl, h1, _⟩ := lstOf_sound S r e1
      exact tyX_list h1
    · cases e
theorem isi_one {a c : Expr} {p pos : Pos} {f : Ev} {t : String} (hg : Gl X "isinstance") (hm : X.mg "isinstance" = none) (ha : PE X a (tE X.K f)) (hc : PE X c (tC (.ty t)))
    (h1 : starEach [a, c] X.env = (false, eval a X.env) :: starEach [c] X.env) (h2 : starEach [c] X.env = (false, eval c X.env) :: starEach [] X.env) (hpl : (backTo pos (starEach [c] X.env)).any (·.1) = false) :
    PE X (.Call (.Name "isinstance" p) [a, c] [] pos) (tE X.K (evIsi f [t])) :=
  PE.wk (pe_callB call_isi hg hm boot_isinstance (pa_cons ha (pa_cons hc pa_nil h2) h1) (by decide) (by decide) h1 hpl) fun σ H Q ⟨w, env, hp, x, hp', S, E, q0, q⟩ => by
    obtain ⟨p, e1, e2⟩ := Option.bind_eq_some_iff.mp q0
    obtain ⟨ty, e3, e4⟩ := Option.bind_eq_some_iff.mp e2
    obtain ⟨b, e5, e6⟩ := Option.bind_eq_some_iff.mp e4
    cases e6
    refine ⟨w, env, hp, p.1, p.2, S, E, e1, fun w1 H1 v1 P1 S1 R1 => ?_⟩
    refine ⟨v1, .ty t, .type ty, .type t, b, rfl, .ty t, tyM_ok S1 R1 e3, ?_, q w1 H1 _ P1 S1 (.bl _)⟩
    unfold anyT at e5
    split at e5
    · rename_i e; cases e5; exact kit_ty (subT_kit e)
    · rename_i e; cases e5; exact kit_ty (subT_kit e)
    · cases e5
theorem clsV_tys : ∀ ts : List String, Paired ClsV (ts.map V.ty) (ts.map Value.type)
  | [] => .nil
  | t :: r => .cons (.ty t) (clsV_tys r)
theorem isi_tup {a : Expr} {cs : List Expr} {p pos p2 : Pos} {k : Nat} {f : Ev} {ts : List String} (hg : Gl X "isinstance") (hm : X.mg "isinstance" = none) (ha : PE X a (tE X.K f)) (hc : PA X cs (fun _ H Q => Q (ts.map V.ty) H)) (hl : ts.length ≤ sizeLine)
    (h1 : starEach [a, .Tuple cs k p2] X.env = (false, eval a X.env) :: starEach [.Tuple cs k p2] X.env) (h2 : starEach [.Tuple cs k p2] X.env = (false, eval (.Tuple cs k p2) X.env) :: starEach [] X.env) (hpl : (backTo pos (starEach [.Tuple cs k p2] X.env)).any (·.1) = false) :
    PE X (.Call (.Name "isinstance" p) [a, .Tuple cs k p2] [] pos) (tE X.K (evIsi f ts)) :=
  PE.wk (pe_callB call_isiT hg hm boot_isinstance (pa_cons ha (pa_cons (pe_tup hc) pa_nil h2) h1) (by decide) (by decide) h1 hpl) fun σ H Q ⟨w, env, hp, x, hp', S, E, q0, q⟩ => by
    obtain ⟨p, e1, e2⟩ := Option.bind_eq_some_iff.mp q0
    obtain ⟨ty, e3, e4⟩ := Option.bind_eq_some_iff.mp e2
    obtain ⟨b, e5, e6⟩ := Option.bind_eq_some_iff.mp e4
    cases e6
    refine ⟨w, env, hp, p.1, p.2, S, E, e1, fun w1 H1 v1 P1 S1 R1 => ⟨by simpa using hl, fun a hn => ?_⟩⟩
    have S2 := S1.more (same_upd (o := .tup (ts.map V.ty)) hn)
    refine ⟨v1, a, ts.map V.ty, .type ty, ts.map Value.type, b, rfl, upd_same, ?_, tyM_ok S2 R1 e3, anyT_kit e5, q w1 _ _ (P1.trans (Post.laid w1 hn)) S2 (.bl _)⟩
    exact clsV_tys ts

/-! ### all, any -/
def bools : List MV → Option (List Bool)
  | [] => some []
  | .d (.bool b) :: r => match bools r with
    | some bs => some (b :: bs)
    | none => none
  | _ :: _ => none
theorem bools_ok {K : PySem.W.Frag} {w : Wd} : ∀ {xs : List MV} {vs : List V} {bs : List Bool}, RepMs K w xs vs → bools xs = some bs → vs = bs.map V.bl
  | [], _, _, h, e => by cases h; cases e; rfl
  | .d (.bool b) :: r, _, _, h, e => by
    cases h with
    | cons p t =>
      have e : (match bools r with | some bs => some (b :: bs) | none => none) = some _ := e
      split at e
      · rename_i bs' e2
        cases e
        cases p
        rw [bools_ok t e2]
        rfl
      · cases e
  | .d .none :: _, _, _, _, e => by cases e
  | .d (.int _) :: _, _, _, _, e => by cases e
  | .d (.str _) :: _, _, _, _, e => by cases e
  | .d (.list _) :: _, _, _, _, e => by cases e
  | .d (.tuple _) :: _, _, _, _, e => by cases e
  | .d (.dict _) :: _, _, _, _, e => by cases e
  | .c _ :: _, _, _, _, e => by cases e
  | .k _ :: _, _, _, _, e => by cases e
def allM (as : List MV) (hp : Mh) : Option R :=
  match as with
  | [a] => match lstOf a hp with
    | some xs => match bools xs with
      | some bs => bv (bs.all id)
      | none => none
    | none => none
  | _ => none
def anyM (as : List MV) (hp : Mh) : Option R :=
  match as with
  | [a] => match lstOf a hp with
    | some xs => match bools xs with
      | some bs => bv (bs.any id)
      | none => none
    | none => none
  | _ => none
theorem ok_all (hc : X.calm = true) : CallR X (.builtin "all") (rCallM X.K allM) := by
  intro pins s σ H xs us Q I r h
  obtain ⟨w, hp, as, r', S, ra, e, q⟩ := h
  unfold allM at e
  split at e
  · split at e
    · rename_i ys e1
      split at e
      · rename_i bs e2
        cases e
        obtain ⟨x, rfl, rx⟩ := repMs1 ra
        obtain ⟨p, vs, rfl, h1, h2⟩ := lstOf_sound S rx e1
        rw [bools_ok h2 e2] at h1
        exact cr_all hc pins s σ H _ us Q I r ⟨_, _, rfl, h1, q _ _ _ (Post.refl _ _) S (.bl _)⟩
      · cases e
    · cases e
  · cases e
theorem ok_any (hc : X.calm = true) : CallR X (.builtin "any") (rCallM X.K anyM) := by
  intro pins s σ H xs us Q I r h
  obtain ⟨w, hp, as, r', S, ra, e, q⟩ := h
  unfold anyM at e
  split at e
  · split at e
    · rename_i ys e1
      split at e
      · rename_i bs e2
        cases e
        obtain ⟨x, rfl, rx⟩ := repMs1 ra
        obtain ⟨p, vs, rfl, h1, h2⟩ := lstOf_sound S rx e1
        rw [bools_ok h2 e2] at h1
        exact cr_any hc pins s σ H _ us Q I r ⟨_, _, rfl, h1, q _ _ _ (Post.refl _ _) S (.bl _)⟩
      · cases e
    · cases e
  · cases e
end
end L2.MP
/-! MiniPy I: from syntax to evaluators. -/
namespace L2.MP
open PySem PySem.Spec PyProof.Rows

def mapO {α β : Type} (f : α → Option β) : List α → Option (List β)
  | [] => some []
  | a :: r => (f a).bind fun b => (mapO f r).bind fun bs => some (b :: bs)
theorem mapO_ok {α β : Type} {f : α → Option β} : ∀ {es : List α} {fs : List β}, mapO f es = some fs → Paired (fun e g => f e = some g) es fs
  | [], _, h => by cases h; exact .nil
  | a :: r, _, h => by
    obtain ⟨b, e1, e2⟩ := Option.bind_eq_some_iff.mp h
    obtain ⟨bs, e3, e4⟩ := Option.bind_eq_some_iff.mp e2
    cases e4
    exact .cons e1 (mapO_ok e3)

inductive GV where
  | fn (k ar : Nat) (rf : List Nat)
  | dat (x : MV)
structure Ct where
  N : List Str
  G : Str → Option GV
  mks : List (Nat × Nat)
  fuel : Nat
  φ : Nat → List MV → Mh → Option (MV × Mh)

inductive BltK where
  | len | abs | int | min | max | list | tuple | all | any
def bltTab : List (Str × BltK) := [("len", .len), ("abs", .abs), ("int", .int), ("min", .min), ("max", .max), ("list", .list), ("tuple", .tuple), ("all", .all), ("any", .any)]
def bltM : BltK → List MV → Mh → Option R
  | .len => lenM
  | .abs => absM
  | .int => intM
  | .min => min2M
  | .max => max2M
  | .list => listM
  | .tuple => tupleM
  | .all => allM
  | .any => anyM
def tyTab : List (Str × String) := [("int", "int"), ("str", "str"), ("bool", "bool"), ("list", "list"), ("tuple", "tuple")]
/-- built-in names that the text may not bind anew -/
def bltNames : List Str := ["len", "abs", "int", "min", "max", "list", "tuple", "all", "any", "str", "bool", "isinstance", "range", "sum", "sorted", "set", "enumerate", "zip", "reversed"]
inductive MtK where
  | append | pop | popAt | remove
def mtTab0 : List (Str × MtK) := [("pop", .pop)]
def mtTab1 : List (Str × MtK) := [("append", .append), ("pop", .popAt), ("remove", .remove)]
def mtOf (m : Str) : Nat → Option MtK
  | 0 => mtTab0.lookup m
  | 1 => mtTab1.lookup m
  | _ => none
def mtM' : MtK → Mt
  | .append => appendM
  | .pop => popM
  | .popAt => popAtM
  | .remove => removeM
def binM : Operator → Option (MV → MV → Mh → Option R)
  | .Add => some opAdd
  | .Sub => some opSub
  | .Mult => some opMul
  | .FloorDiv => some opDiv
  | .Mod => some opMod
  | .Pow => some opPow
  | .LShift => some opShl
  | _ => none
def stl (c : Ct) (pos : Pos) (f : Er) : Ev := if c.mks.contains (pos.line, pos.col) then evMk f else evSt f
def isLoc (sc : Scope) (x : Str) : Bool := match sc.names.lookup x with
  | some .local => true
  | some .cell => true
  | _ => false
def isGl (sc : Scope) (x : Str) : Bool := match sc.names.lookup x with
  | some .globalImplicit => true
  | _ => false
def slot (c : Ct) (x : Str) : Option Nat := c.N.findIdx? (fun y => decide (y = x))
def look (c : Ct) (sc : Scope) (x : Str) : Option Ev :=
  if (x == ("__debug__" : Str)) = true ∨ (x == ("__classdict__" : Str)) = true then none else
  match sc.names.lookup x with
  | some .local => (slot c x).map evVar
  | some .cell => (slot c x).map evVar
  | some .free => (slot c x).map evVar
  | some .globalImplicit => match c.G x with
    | some (.dat d) => some (evK d)
    | _ => none
  | _ => none
def cst : Const → Option Ev
  | .none => some (evK (.d .none))
  | .bool b => some (evK (.d (.bool b)))
  | .int i => some (evK (.d (.int i)))
  | .str x => some (evK (.d (.str x)))
  | _ => none
def isSet : Expr → Bool
  | .Set .. => true
  | _ => false
def boolE (op : PySem.BoolOp) : List Ev → Option Ev
  | [] => none
  | [f] => some f
  | f :: g :: r => (boolE op (g :: r)).bind fun h => some (match op with | .And => evAnd f h | .Or => evOr f h)
def boolT (op : PySem.BoolOp) : List Et → Option Et
  | [] => none
  | [f] => some f
  | f :: g :: r => (boolT op (g :: r)).bind fun h => some (match op with | .And => etAnd f h | .Or => etOr f h)
/-- a comprehension's own names -/
def ownOf (N : List Str) (scope : Scope) : List (Str × Nat) := scope.names.filterMap fun y => match y.2 with
  | .local => (N.findIdx? (fun z => decide (z = y.1))).map fun i => (y.1, i)
  | .cell => (N.findIdx? (fun z => decide (z = y.1))).map fun i => (y.1, i)
  | _ => none
def tyOfE (sc : Scope) (c : Ct) : Expr → Option String
  | .Name x _ => if isGl sc x = true ∧ (c.G x).isNone = true then tyTab.lookup x else none
  | _ => none
def bltE (c : Ct) (sc : Scope) (x : Str) (pos : Pos) (fs : List Ev) : Option Ev :=
  if fs.length = 0 then none else (bltTab.lookup x).bind fun k => some (stl c pos (evBlt (bltM k) fs))
/-- arguments are frozen, but those that the def may change -/
def argFz (rf : List Nat) : Nat → List Ev → List Ev
  | _, [] => []
  | i, f :: r => (if rf.contains i then f else evFz f) :: argFz rf (i + 1) r
/-- f(..) of a name -/
def callE (c : Ct) (sc : Scope) (x : Str) (pos : Pos) (fs : List Ev) : Option Ev :=
  if isGl sc x = true ∧ (x == ("__debug__" : Str)) = false then match c.G x with
    | some (.fn k ar rf) => if fs.length = ar then some (evCall (c.φ k) (argFz rf 0 fs)) else none
    | some (.dat _) => none
    | none => bltE c sc x pos fs
  else none
/-- isinstance(a, T), isinstance(a, (T, ..)) -/
def isiE (E : Expr → Option Ev) (ty : Expr → Option String) : List Expr → Option Ev
  | [a, .Tuple ts _ _] => (E a).bind fun f => (mapO ty ts).bind fun ts => if ts.length ≤ 20 then some (evIsi f ts) else none
  | [a, t] => (E a).bind fun f => (ty t).bind fun t => some (evIsi f [t])
  | _ => none
def isIsi (x : Str) : Bool := decide (x = ("isinstance" : Str))
def isRange (x : Str) : Bool := decide (x = ("range" : Str))
/-- a receiver that attributeBase leaves alone -/
def plainRecv : Expr → Bool
  | .Name .. => true
  | .Constant .. => true
  | .Subscript .. => true
  | _ => false

mutual
def compE : Nat → Ct → Scope → Expr → Option Ev
  | 0, _, _, _ => none
  | n + 1, c, sc, e => match e with
    | .Name x _ => look c sc x
    | .Constant k _ _ => cst k
    | .BinOp a op b pos => (compE n c sc a).bind fun f => (compE n c sc b).bind fun g => (binM op).bind fun o => some (stl c pos (evBin o f g))
    | .UnaryOp .USub a _ => (compE n c sc a).bind fun f => some (evSt (evUn negM f))
    | .UnaryOp .Not a _ => (compE n c sc a).bind fun f => some (evOfT (etNot (etTru f)))
    | .BoolOp op vs _ => (mapO (compE n c sc) vs).bind fun fs => boolE op fs
    | .Compare a [op] [b] _ => if isSet b then none else (compE n c sc a).bind fun f => (compE n c sc b).bind fun g => some (evOfT (evCmp (cmpM op) f g))
    | .Compare a [op, op'] [b, d] _ => if isSet d then none else (compE n c sc a).bind fun f => (compE n c sc b).bind fun g => (compE n c sc d).bind fun h => some (evOfT (evCmp2 (cmpM op) (cmpM op') f g h))
    | .IfExp t a b _ => (compT n c sc t).bind fun t => (compE n c sc a).bind fun f => (compE n c sc b).bind fun g => some (evIf t f g)
    | .Tuple es _ _ => (mapO (compE n c sc) es).bind fun fs => some (evTup (fs.map evFz))
    | .List es pos => (mapO (compE n c sc) es).bind fun fs => some (stl c pos (evLst fs))
    | .Subscript a (.Slice lo hi none _) pos => (compE n c sc a).bind fun f =>
        (match lo with | none => some none | some l => (compE n c sc l).bind fun g => some (some g)).bind fun gl =>
        (match hi with | none => some none | some h => (compE n c sc h).bind fun g => some (some g)).bind fun gh => some (stl c pos (evSl f gl gh))
    | .Subscript a b _ => (compE n c sc a).bind fun f => (compE n c sc b).bind fun g => some (evSt (evBin ixM f g))
    | .Call (.Name x _) args [] pos => if isIsi x = true then
          (if isGl sc x = true ∧ (c.G x).isNone = true then isiE (compE n c sc) (tyOfE sc c) args else none)
        else (mapO (compE n c sc) args).bind fun fs => callE c sc x pos fs
    | .Call (.Attribute o m apos) args [] pos => if plainRecv o = true ∧ apos.endLine = pos.line ∧ args.length < 20 then
          (mtOf m args.length).bind fun k => (compE n c sc o).bind fun f => (mapO (compE n c sc) args).bind fun fs => some (evMt (mtM' k) f (fs.map evFz))
        else none
    | .ListComp elt [⟨tg, it, ifs, 0⟩] scope pos => if blkC c.N sc scope (ownOf c.N scope) = true ∧ isSet it = false then
          (compI n c sc it).bind fun ei => (compG n c (relS scope sc) scope tg).bind fun g =>
          (match ifs with | [] => some etYes | [t] => compT n c (relS scope sc) t | _ => none).bind fun t => (compE n c (relS scope sc) elt).bind fun f =>
          if ((g : Eg × List Nat).2.all fun (i : Nat) => (ownOf c.N scope).any fun (p : Str × Nat) => p.2 == i) = true then some (stl c pos (evLc ei g.1 t f ((ownOf c.N scope).map fun (p : Str × Nat) => p.2))) else none
        else none
    | _ => none
def compT : Nat → Ct → Scope → Expr → Option Et
  | 0, _, _, _ => none
  | n + 1, c, sc, e => match e with
    | .UnaryOp .Not a _ => (compT n c sc a).bind fun t => some (etNot t)
    | .BoolOp op vs _ => (mapO (compT n c sc) vs).bind fun ts => boolT op ts
    | .Compare a [op] [b] _ => if isSet b then none else (compE n c sc a).bind fun f => (compE n c sc b).bind fun g => some (evCmp (cmpM op) f g)
    | .Compare a [op, op'] [b, d] _ => if isSet d then none else (compE n c sc a).bind fun f => (compE n c sc b).bind fun g => (compE n c sc d).bind fun h => some (evCmp2 (cmpM op) (cmpM op') f g h)
    | .IfExp .. => none
    | .Compare .. => none
    | e => (compE n c sc e).bind fun f => some (etTru f)
def compI : Nat → Ct → Scope → Expr → Option Ei
  | 0, _, _, _ => none
  | n + 1, c, sc, e => match e with
    | .Call (.Name x _) [a] [] _ => if isRange x = true then
        (if isGl sc x = true ∧ (c.G x).isNone = true then (compE n c sc a).bind fun f => some (eiRng1 f) else none) else (compE n c sc e).bind fun f => some (eiSeq f)
    | .Call (.Name x _) [a, b] [] _ => if isRange x = true then
        (if isGl sc x = true ∧ (c.G x).isNone = true then (compE n c sc a).bind fun f => (compE n c sc b).bind fun g => some (eiRng2 f g) else none) else (compE n c sc e).bind fun f => some (eiSeq f)
    | e => (compE n c sc e).bind fun f => some (eiSeq f)
/-- a target: sc the scope that runs, ws the one whose own names may be stored -/
def compG : Nat → Ct → Scope → Scope → Expr → Option (Eg × List Nat)
  | 0, _, _, _, _ => none
  | n + 1, c, sc, ws, e => match e with
    | .Name x _ => if isLoc ws x = true then (slot c x).bind fun i => some (egName i, [i]) else none
    | .Tuple es _ _ => (mapO (compG n c sc ws) es).bind fun gs => some (egTup (gs.map (·.1)), (gs.map (·.2)).flatten)
    | .Subscript a (.Slice ..) _ => none
    | .Subscript a b _ => (compE n c sc a).bind fun f => (compE n c sc b).bind fun g => some (egSub f g, [])
    | _ => none
end

/-! ### what the context must be -/
structure CtOk (c : Ct) (sc : Scope) (X : Cx) : Prop where
  N : X.N = c.N
  nd : c.N.Nodup
  kind : sc.kind = ScopeKind.function
  sc : X.env.scope = sc
  calm : X.calm = true
  room : X.A.units + 100 < cLine
  dat : ∀ x d, c.G x = some (.dat d) → ∃ u v, X.mg x = some u ∧ RelV v u ∧ ∀ w, RepM X.K w d v
  fn : ∀ x k ar rf, c.G x = some (.fn k ar rf) → ∃ lvl fa fd ps, X.mg x = some (.ref fa) ∧ PySem.W.keepIn X.K (.ref fa) = true ∧ Binds X.K fd ps [] ∧ FnOk X.prog X.w X.K X.mg X.base CX0 lvl fa fd ps (spF X.K ar (c.φ k)) ∧ Room lvl X.A
  blt : ∀ x ∈ bltNames, c.G x = none → X.mg x = none
/-- what may be stored -/
structure WsOk (c : Ct) (ws : Scope) (X : Cx) : Prop where
  st : ∀ x, isLoc ws x = true → Loc X.env.scope x ∧ (X.fn x = true ∨ X.env.scope.names.lookup x = some .local)

theorem slot_ok {c : Ct} {x : Str} {i : Nat} (h : slot c x = some i) : c.N[i]? = some x := by
  unfold slot at h
  obtain ⟨h1, h2, _⟩ := List.findIdx?_eq_some_iff_getElem.mp h
  rw [List.getElem?_eq_getElem h1]
  simpa using h2
theorem isLoc_ok {sc : Scope} {x : Str} (h : isLoc sc x = true) : Loc sc x := by
  unfold isLoc at h
  split at h
  · exact .inl (by assumption)
  · exact .inr (by assumption)
  · cases h
theorem isGl_ok {c : Ct} {sc : Scope} {X : Cx} (C : CtOk c sc X) {x : Str} (h : isGl sc x = true) : Gl X x := by
  unfold isGl at h
  split at h
  · show X.env.scope.names.lookup x = _
    rw [C.sc]
    assumption
  · cases h

section
variable {c : Ct} {sc ws : Scope} {X : Cx}
theorem look_ok (C : CtOk c sc X) {x : Str} {pos : Pos} {f : Ev} (h : look c sc x = some f) : PE X (.Name x pos) (tE X.K f) := by
  unfold look at h
  split at h
  · cases h
  · rename_i hd
    have h1 : (x == ("__debug__" : Str)) = false := by
      cases q : (x == ("__debug__" : Str)) with
      | false => rfl
      | true => exact absurd (.inl q) hd
    have h2 : (x == ("__classdict__" : Str)) = false := by
      cases q : (x == ("__classdict__" : Str)) with
      | false => rfl
      | true => exact absurd (.inr q) hd
    have var : ∀ {k}, sc.names.lookup x = some k → (k = .local ∨ k = .cell ∨ k = .free) → (slot c x).map evVar = some f → PE X (.Name x pos) (tE X.K f) := by
      intro k hk hk' h
      obtain ⟨i, e1, rfl⟩ := Option.map_eq_some_iff.mp h
      refine pe_varM (by rw [C.N]; exact slot_ok e1) ?_ h1 h2
      rw [C.sc]
      rcases hk' with rfl | rfl | rfl
      · exact .inl hk
      · exact .inr (.inl hk)
      · exact .inr (.inr hk)
    split at h
    · rename_i hk
      exact var hk (.inl rfl) h
    · rename_i hk
      exact var hk (.inr (.inl rfl)) h
    · rename_i hk
      exact var hk (.inr (.inr rfl)) h
    · rename_i hk
      split at h
      · rename_i d hg
        cases h
        obtain ⟨u, v, h3, h4, h5⟩ := C.dat _ _ hg
        exact pe_kM (pe_glob (by show X.env.scope.names.lookup x = _; rw [C.sc]; exact hk) h3 h4 h1) h5
      · cases h
    · cases h
theorem cst_ok {k : Const} {j : Nat} {pos : Pos} {f : Ev} (h : cst k = some f) : PE X (.Constant k j pos) (tE X.K f) := by
  unfold cst at h
  split at h
  · cases h; exact pe_kM pe_non fun _ => .non
  · cases h; exact pe_kM pe_bl fun _ => .bl _
  · cases h; exact pe_kM pe_int fun _ => .int _
  · cases h; exact pe_kM pe_str fun _ => .str _
  · cases h
theorem stl_ok {pos : Pos} {f : Er} {e : Expr} (h : PE X e (tR X.K f)) : PE X e (tE X.K (stl c pos f)) := by
  unfold stl
  split
  · exact pe_mk h
  · exact pe_st h
theorem binM_ok {op : Operator} {o : MV → MV → Mh → Option R} (h : binM op = some o) : OpR X (binaryOp op) (rOp X.K o) := by
  cases op <;> first | (cases h; first | exact ok_add | exact ok_sub | exact ok_mul | exact ok_div | exact ok_mod | exact ok_pow | exact ok_shl) | cases h
theorem noSet_marks {b : Expr} (op : CmpOp) (h : isSet b = false) : behindInMarks op b = false := by
  cases b <;> first | rfl | cases h
theorem noSet_marks2 {b d : Expr} (op op' : CmpOp) (h : isSet d = false) : lastMarks [op, op'] [b, d] = false := noSet_marks op' h
theorem noSet_fold {b : Expr} (env : Env) (h : isSet b = false) : ∀ x, foldedSetIterable b env x = pure x := by
  intro x
  cases b <;> first | rfl | cases h
/-- no starred item is taken -/
theorem comp_star {n : Nat} {e : Expr} {f : Ev} (h : compE n c sc e = some f) (es : List Expr) (env : Env) : starEach (e :: es) env = (false, eval e env) :: starEach es env := by
  cases n with
  | zero => simp [compE] at h
  | succ n => cases e <;> first | rfl | (simp [compE] at h)
theorem comp_noSlice {n : Nat} {e : Expr} {f : Ev} (h : compE n c sc e = some f) : PlainIx e := by
  cases n with
  | zero => simp [compE] at h
  | succ n => cases e <;> first | (exact fun _ _ => rfl) | (simp [compE] at h)
theorem back_ok {es : List Expr} {fs : List Ev} {n : Nat} (pos : Pos) (env : Env) (h : Paired (fun e g => compE n c sc e = some g) es fs) : (backTo pos (starEach es env)).any (·.1) = false := by
  induction h with
  | nil => rfl
  | cons p t ih =>
    rw [comp_star p]
    show (false || (backTo pos (starEach _ env)).any (·.1)) = false
    rw [ih]
    rfl
theorem few_ok {es : List Expr} {fs : List Ev} {n : Nat} (pos : Pos) (env : Env) (h : Paired (fun e g => compE n c sc e = some g) es fs) : (backTo pos (starEach es env)).all (fun x => !x.1) = true := by
  induction h with
  | nil => rfl
  | cons p t ih =>
    rw [comp_star p]
    show (true && (backTo pos (starEach _ env)).all (fun x => !x.1)) = true
    rw [ih]
    rfl
theorem isTrue_plain' {n : Nat} {e : Expr} {f : Et} (h : compT (n + 1) c sc e = some f) : (∃ g, f = etTru g ∧ compE n c sc e = some g ∧ ∀ env whole, isTrue e env whole = (do let v ← whole; standAt e.pos; holding [v] (truthy v))) ∨ (∃ a p, e = .UnaryOp .Not a p) ∨ (∃ o vs p, e = .BoolOp o vs p) ∨ (∃ a os cs p, e = .Compare a os cs p) := by
  cases e with
  | UnaryOp op a p =>
    cases op with
    | Not => exact .inr (.inl ⟨a, p, rfl⟩)
    | _ =>
      simp only [compT] at h
      obtain ⟨g, h1, h2⟩ := Option.bind_eq_some_iff.mp h
      cases h2
      exact .inl ⟨g, rfl, h1, fun _ _ => rfl⟩
  | BoolOp o vs p => exact .inr (.inr (.inl ⟨o, vs, p, rfl⟩))
  | Compare a os cs p => exact .inr (.inr (.inr ⟨a, os, cs, p, rfl⟩))
  | IfExp t a b p => simp [compT] at h
  | _ =>
    simp only [compT] at h
    obtain ⟨g, h1, h2⟩ := Option.bind_eq_some_iff.mp h
    cases h2
    exact .inl ⟨g, rfl, h1, fun _ _ => rfl⟩
theorem boolE_ok {op : PySem.BoolOp} {pos : Pos} : ∀ {vs : List Expr} {fs : List Ev} {f : Ev}, Paired (fun e f => PE X e (tE X.K f)) vs fs → boolE op fs = some f → PE X (.BoolOp op vs pos) (tE X.K f)
  | _, _, _, .nil, e => by cases e
  | _, _, _, .cons h .nil, e => by cases e; exact pe_one h
  | _, _, _, .cons h (.cons h2 t), e => by
    obtain ⟨g, e1, e2⟩ := Option.bind_eq_some_iff.mp e
    cases e2
    have ih := boolE_ok (pos := pos) (.cons h2 t) e1
    cases op with
    | And => exact pe_andM h ih
    | Or => exact pe_orM h ih
theorem boolT_ok {op : PySem.BoolOp} {pos : Pos} : ∀ {vs : List Expr} {fs : List Et} {f : Et}, Paired (fun e f => PT X e (tB X.K f)) vs fs → boolT op fs = some f → PW X (.BoolOp op vs pos) (tB X.K f)
  | _, _, _, .nil, e => by cases e
  | _, _, _, .cons h .nil, e => by
    cases e
    cases op with
    | And => exact pw_and1 h
    | Or => exact pw_or1 h
  | _, _, _, .cons h (.cons h2 t), e => by
    obtain ⟨g, e1, e2⟩ := Option.bind_eq_some_iff.mp e
    cases e2
    have ih := boolT_ok (pos := pos) (.cons h2 t) e1
    cases op with
    | And => exact pw_andM h ih
    | Or => exact pw_orM h ih
theorem blt_mem {x : Str} {k : BltK} (h : bltTab.lookup x = some k) : (x, k) ∈ bltTab := PySem.mem_of_lookup h
theorem len_pos {α : Type} {l : List α} (h : ¬ l.length = 0) : ∃ a r, l = a :: r := by
  cases l with
  | nil => exact absurd rfl h
  | cons a r => exact ⟨a, r, rfl⟩
theorem bltE_ok (C : CtOk c sc X) {x : Str} {p pos : Pos} {es : List Expr} {fs : List Ev} {f : Ev} {n : Nat} (hp : Paired (fun e g => compE n c sc e = some g) es fs) (hE : ∀ e g, compE n c sc e = some g → PE X e (tE X.K g)) (hg : Gl X x) (hG : c.G x = none) (h : bltE c sc x pos fs = some f) :
    PE X (.Call (.Name x p) es [] pos) (tE X.K f) := by
  unfold bltE at h
  split at h
  · cases h
  · rename_i hl
    obtain ⟨k, e1, e2⟩ := Option.bind_eq_some_iff.mp h
    cases e2
    have hm := blt_mem e1
    cases hp with
    | nil => exact absurd rfl hl
    | cons h1 t =>
      have hA := pa_all (X := X) (Paired.mapP (Paired.cons h1 t) fun e g q => ⟨hE e g q, fun es => comp_star q es X.env⟩)
      have hs := fun es => comp_star h1 es X.env
      have hb := back_ok pos X.env t
      refine stl_ok ?_
      simp only [bltTab, List.mem_cons, List.mem_nil_iff, or_false, Prod.mk.injEq] at hm
      rcases hm with ⟨rfl, rfl⟩ | ⟨rfl, rfl⟩ | ⟨rfl, rfl⟩ | ⟨rfl, rfl⟩ | ⟨rfl, rfl⟩ | ⟨rfl, rfl⟩ | ⟨rfl, rfl⟩ | ⟨rfl, rfl⟩ | ⟨rfl, rfl⟩
      · exact pe_bltM ok_len hg (C.blt _ (by decide +kernel) hG) PySem.boot_len hA (by decide +kernel) (by decide +kernel) (hs _) hb
      · exact pe_bltM ok_abs hg (C.blt _ (by decide +kernel) hG) boot_abs hA (by decide +kernel) (by decide +kernel) (hs _) hb
      · exact pe_tyM ok_int hg (C.blt _ (by decide +kernel) hG) boot_int hA (by decide +kernel) (by decide +kernel) (hs _) hb
      · exact pe_bltM (ok_min2 C.calm) hg (C.blt _ (by decide +kernel) hG) boot_min hA (by decide +kernel) (by decide +kernel) (hs _) hb
      · exact pe_bltM (ok_max2 C.calm) hg (C.blt _ (by decide +kernel) hG) boot_max hA (by decide +kernel) (by decide +kernel) (hs _) hb
      · exact pe_tyM ok_list hg (C.blt _ (by decide +kernel) hG) boot_list hA (by decide +kernel) (by decide +kernel) (hs _) hb
      · exact pe_tyM ok_tuple hg (C.blt _ (by decide +kernel) hG) boot_tuple hA (by decide +kernel) (by decide +kernel) (hs _) hb
      · exact pe_bltM (ok_all C.calm) hg (C.blt _ (by decide +kernel) hG) boot_all hA (by decide +kernel) (by decide +kernel) (hs _) hb
      · exact pe_bltM (ok_any C.calm) hg (C.blt _ (by decide +kernel) hG) boot_any hA (by decide +kernel) (by decide +kernel) (hs _) hb
theorem mapFz {α : Type} {P Q : α → Ev → Prop} (h : ∀ a f, P a f → Q a (evFz f)) : ∀ {es : List α} {fs : List Ev}, Paired P es fs → Paired Q es (fs.map evFz)
  | _, _, .nil => .nil
  | _, _, .cons p t => .cons (h _ _ p) (mapFz h t)
theorem argFz_ok {α : Type} {P Q : α → Ev → Prop} {rf : List Nat} (h : ∀ a f, P a f → Q a f ∧ Q a (evFz f)) : ∀ {es : List α} {fs : List Ev} (i : Nat), Paired P es fs → Paired Q es (argFz rf i fs)
  | _, _, _, .nil => .nil
  | _, _, i, .cons p t => by
    refine .cons ?_ (argFz_ok h (i + 1) t)
    split
    · exact (h _ _ p).1
    · exact (h _ _ p).2
theorem argFz_length {rf : List Nat} : ∀ (fs : List Ev) (i : Nat), (argFz rf i fs).length = fs.length
  | [], _ => rfl
  | _ :: r, i => by show (argFz rf (i + 1) r).length + 1 = _; rw [argFz_length r]; rfl
theorem callE_ok (C : CtOk c sc X) {x : Str} {p pos : Pos} {es : List Expr} {fs : List Ev} {f : Ev} {n : Nat} (hp : Paired (fun e g => compE n c sc e = some g) es fs) (hE : ∀ e g, compE n c sc e = some g → PE X e (tE X.K g)) (h : callE c sc x pos fs = some f) :
    PE X (.Call (.Name x p) es [] pos) (tE X.K f) := by
  unfold callE at h
  split at h
  · rename_i hx
    have hg := isGl_ok C hx.1
    split at h
    · rename_i k ar rf hG
      split at h
      · rename_i hl
        cases h
        obtain ⟨lvl, fa, fd, ps, h1, h2, h3, h4, h5⟩ := C.fn _ _ _ _ hG
        cases hp with
        | nil =>
          have : ar = 0 := hl.symm
          subst this
          exact pe_callM0 h4 h5 hg h1 h2 h3 hx.2
        | cons q t =>
          have hA := pa_all (X := X) (argFz_ok (rf := rf) (P := fun e g => compE n c sc e = some g) (fun e g q => ⟨⟨hE e g q, fun es => comp_star q es X.env⟩, ⟨pe_fz (hE e g q), fun es => comp_star q es X.env⟩⟩) 0 (Paired.cons q t))
          exact pe_callM h4 h5 hg h1 h2 h3 (by rw [argFz_length]; exact hl) hA hx.2 (comp_star q _ _) (back_ok pos X.env t)
      · cases h
    · cases h
    · rename_i hG
      exact bltE_ok C hp hE hg hG h
  · cases h
end
end L2.MP
/-! MiniPy J: what compE, compT, compI, compG print is right. -/
namespace L2.MP
open PySem PySem.Spec PyProof.Rows

structure Good (n : Nat) : Prop where
  E : ∀ c sc e f, compE n c sc e = some f → ∀ X, CtOk c sc X → PE X e (tE X.K f)
  T : ∀ c sc e f, compT n c sc e = some f → ∀ X, CtOk c sc X → PT X e (tB X.K f)
  I : ∀ c sc e f, compI n c sc e = some f → ∀ X, CtOk c sc X → ∀ tg, PI X tg e (iG X.K f)
  G : ∀ c sc ws e g, compG n c sc ws e = some g → ∀ X, CtOk c sc X → WsOk c ws X → ∀ L, (∀ i ∈ g.2, i ∈ L) → PG X e (tGt X.K L g.1)

theorem CtOk.blk {c : Ct} {sc scope : Scope} {X : Cx} (C : CtOk c sc X) (hk : scope.kind = .function) (s : Shared) (H : Hp) (a : Addr) (cl : List (Str × Addr)) (fp : List Addr) : CtOk c (relS scope sc) (X.blk s H scope (compEnvC scope cl a X.env) fp) where
  N := C.N
  nd := C.nd
  kind := hk
  sc := by
    show relS scope X.env.scope = relS scope sc
    rw [C.sc]
  calm := C.calm
  room := C.room
  dat := C.dat
  fn := C.fn
  blt := C.blt
theorem WsOk.blk {c : Ct} {scope : Scope} {X : Cx} (s : Shared) (H : Hp) (a : Addr) (cl : List (Str × Addr)) (fp : List Addr) : WsOk c scope (X.blk s H scope (compEnvC scope cl a X.env) fp) where
  st := fun x h => by
    have key : ∀ k, k ≠ NameKind.free → scope.names.lookup x = some k → (relS scope X.env.scope).names.lookup x = some k := fun k hk hl => lookup_relS_keep hk hl
    unfold isLoc at h
    split at h
    · rename_i q
      exact ⟨.inl (key _ (by decide) q), .inr (key _ (by decide) q)⟩
    · rename_i q
      exact ⟨.inr (key _ (by decide) q), .inl (by show (scope.names.lookup x == some .cell) = true; rw [q]; rfl)⟩
    · cases h

section
variable {c : Ct} {sc ws : Scope} {X : Cx}
theorem tyOfE_ok (C : CtOk c sc X) {e : Expr} {t : String} (h : tyOfE sc c e = some t) : PE X e (tC (.ty t)) ∧ (∀ es, starEach (e :: es) X.env = (false, eval e X.env) :: starEach es X.env) ∧ (∀ es k p, e ≠ .Tuple es k p) := by
  unfold tyOfE at h
  split at h
  · split at h
    · rename_i x p hx
      have hg := isGl_ok C hx.1
      have hG : c.G x = none := by
        cases q : c.G x with
        | none => rfl
        | some _ => rw [q] at hx; cases hx.2
      have hm : (x, t) ∈ tyTab := PySem.mem_of_lookup h
      refine ⟨?_, fun _ => rfl, fun _ _ _ z => nomatch z⟩
      simp only [tyTab, List.mem_cons, List.mem_nil_iff, or_false, Prod.mk.injEq] at hm
      rcases hm with ⟨rfl, rfl⟩ | ⟨rfl, rfl⟩ | ⟨rfl, rfl⟩ | ⟨rfl, rfl⟩ | ⟨rfl, rfl⟩
      · exact pe_bltn hg (C.blt _ (by decide +kernel) hG) boot_int rfl
      · exact pe_bltn hg (C.blt _ (by decide +kernel) hG) boot_str rfl
      · exact pe_bltn hg (C.blt _ (by decide +kernel) hG) boot_bool rfl
      · exact pe_bltn hg (C.blt _ (by decide +kernel) hG) boot_list rfl
      · exact pe_bltn hg (C.blt _ (by decide +kernel) hG) boot_tuple rfl
    · cases h
  · cases h
theorem tys_ok (C : CtOk c sc X) : ∀ {es : List Expr} {ts : List String}, Paired (fun e t => tyOfE sc c e = some t) es ts → PA X es (fun _ H Q => Q (ts.map V.ty) H)
  | _, _, .nil => pa_nil
  | _, _, .cons h t => pa_cons (tyOfE_ok C h).1 (tys_ok C t) ((tyOfE_ok C h).2.1 _)
theorem attr_plain {o : Expr} {m : Str} (h : plainRecv o = true) (env : Env) (whole : Sem Value) : attributeBase o m env whole = whole := by
  cases o <;> first | rfl | cases h
theorem none_of_isNone {α : Type} {o : Option α} (h : o.isNone = true) : o = none := by
  cases o with
  | none => rfl
  | some _ => cases h

theorem goodE {n : Nat} (ih : Good n) : ∀ c sc e f, compE (n + 1) c sc e = some f → ∀ X, CtOk c sc X → PE X e (tE X.K f) := by
  intro c sc e f h X C
  have hE : ∀ e g, compE n c sc e = some g → PE X e (tE X.K g) := fun e g q => ih.E c sc e g q X C
  have hu : X.A.units + 65 < cLine := by have := C.room; omega
  cases e with
  | Name x p => exact look_ok C h
  | Constant k j p => exact cst_ok h
  | BinOp a op b p =>
    obtain ⟨f1, e1, h⟩ := Option.bind_eq_some_iff.mp h
    obtain ⟨f2, e2, h⟩ := Option.bind_eq_some_iff.mp h
    obtain ⟨o, e3, h⟩ := Option.bind_eq_some_iff.mp h
    cases h
    exact stl_ok (pe_bin (binM_ok e3) (hE _ _ e1) (hE _ _ e2))
  | UnaryOp op a p =>
    cases op with
    | USub =>
      obtain ⟨f1, e1, h⟩ := Option.bind_eq_some_iff.mp h
      cases h
      exact pe_st (pe_unM ok_neg (hE _ _ e1))
    | Not =>
      obtain ⟨f1, e1, h⟩ := Option.bind_eq_some_iff.mp h
      cases h
      exact pe_notM (hE _ _ e1)
    | Invert => cases h
    | UAdd => cases h
  | BoolOp op vs p =>
    obtain ⟨fs, e1, h⟩ := Option.bind_eq_some_iff.mp h
    exact boolE_ok (Paired.mapP (mapO_ok e1) fun e g q => hE e g q) h
  | Compare a os cs p =>
    match os, cs, h with
    | [op], [b], h =>
      have h : (if isSet b then none else (compE n c sc a).bind fun f => (compE n c sc b).bind fun g => some (evOfT (evCmp (cmpM op) f g))) = some f := h
      split at h
      · cases h
      · rename_i hs
        obtain ⟨f1, e1, h⟩ := Option.bind_eq_some_iff.mp h
        obtain ⟨f2, e2, h⟩ := Option.bind_eq_some_iff.mp h
        cases h
        exact pe_cmpM (ok_cmp hu op) (hE _ _ e1) (hE _ _ e2) (noSet_marks op (by simpa using hs))
    | [op, op'], [b, d], h =>
      have h : (if isSet d then none else (compE n c sc a).bind fun f => (compE n c sc b).bind fun g => (compE n c sc d).bind fun h => some (evOfT (evCmp2 (cmpM op) (cmpM op') f g h))) = some f := h
      split at h
      · cases h
      · rename_i hs
        obtain ⟨f1, e1, h⟩ := Option.bind_eq_some_iff.mp h
        obtain ⟨f2, e2, h⟩ := Option.bind_eq_some_iff.mp h
        obtain ⟨f3, e3, h⟩ := Option.bind_eq_some_iff.mp h
        cases h
        exact pe_cmp2M (ok_cmp hu op) (ok_cmp hu op') (hE _ _ e1) (hE _ _ e2) (hE _ _ e3) (noSet_marks2 op op' (by simpa using hs))
    | [], _, h => cases h
    | [_], [], h => cases h
    | [_], _ :: _ :: _, h => cases h
    | [_, _], [], h => cases h
    | [_, _], [_], h => cases h
    | [_, _], _ :: _ :: _ :: _, h => cases h
    | _ :: _ :: _ :: _, _, h => cases h
  | IfExp t a b p =>
    obtain ⟨f1, e1, h⟩ := Option.bind_eq_some_iff.mp h
    obtain ⟨f2, e2, h⟩ := Option.bind_eq_some_iff.mp h
    obtain ⟨f3, e3, h⟩ := Option.bind_eq_some_iff.mp h
    cases h
    exact pe_ifM (ih.T _ _ _ _ e1 X C) (hE _ _ e2) (hE _ _ e3)
  | Tuple es k p =>
    obtain ⟨fs, e1, h⟩ := Option.bind_eq_some_iff.mp h
    cases h
    exact pe_tupM (pa_all (mapFz (P := fun e g => compE n c sc e = some g) (fun e g q => ⟨pe_fz (hE e g q), fun es => comp_star q es X.env⟩) (mapO_ok e1)))
  | List es p =>
    obtain ⟨fs, e1, h⟩ := Option.bind_eq_some_iff.mp h
    cases h
    exact stl_ok (pe_lstM (pa_all (Paired.mapP (mapO_ok e1) fun e g q => ⟨hE e g q, fun es => comp_star q es X.env⟩)))
  | Subscript a b p =>
    have plain : (∀ lo hi p2, b ≠ .Slice lo hi none p2) → PE X (.Subscript a b p) (tE X.K f) := by
      intro hb
      have h : (compE n c sc a).bind (fun f => (compE n c sc b).bind fun g => some (evSt (evBin ixM f g))) = some f := by
        cases b with
        | Slice lo hi st p2 =>
          cases st with
          | none => exact absurd rfl (hb _ _ _)
          | some _ => exact h
        | _ => exact h
      obtain ⟨f1, e1, h⟩ := Option.bind_eq_some_iff.mp h
      obtain ⟨f2, e2, h⟩ := Option.bind_eq_some_iff.mp h
      cases h
      exact pe_st (pe_ixM (hE _ _ e1) (hE _ _ e2) (comp_noSlice e2))
    cases b with
    | Slice lo hi st p2 =>
      cases st with
      | none =>
        obtain ⟨f1, e1, h⟩ := Option.bind_eq_some_iff.mp h
        obtain ⟨gl, e2, h⟩ := Option.bind_eq_some_iff.mp h
        obtain ⟨gh, e3, h⟩ := Option.bind_eq_some_iff.mp h
        cases h
        have part : ∀ {o : Option Expr} {g : Option Ev}, (match o with | none => some none | some l => (compE n c sc l).bind fun g => some (some g)) = some g → PO X o (tG X.K (fun _ _ _ x b => x = b) (evOpt g)) := by
          intro o g e
          cases o with
          | none =>
            cases e
            exact po_opt trivial
          | some l =>
            obtain ⟨g', e', e''⟩ := Option.bind_eq_some_iff.mp e
            cases e''
            exact po_opt (hE _ _ e')
        exact stl_ok (pe_slM (hE _ _ e1) (part e2) (part e3))
      | some _ => exact plain fun _ _ _ z => nomatch z
    | _ => exact plain fun _ _ _ z => nomatch z
  | Call fn args kws p =>
    cases fn with
    | Name x px =>
      cases kws with
      | cons _ _ => cases h
      | nil =>
        have h : (if isIsi x = true then (if isGl sc x = true ∧ (c.G x).isNone = true then isiE (compE n c sc) (tyOfE sc c) args else none)
          else (mapO (compE n c sc) args).bind fun fs => callE c sc x p fs) = some f := h
        split at h
        · rename_i hi
          have hi : x = ("isinstance" : Str) := of_decide_eq_true hi
          subst hi
          split at h
          · rename_i hx
            have hg := isGl_ok C hx.1
            have hm := C.blt _ (by decide +kernel) (none_of_isNone hx.2)
            unfold isiE at h
            split at h
            · rename_i a ts k p2
              obtain ⟨f1, e1, h⟩ := Option.bind_eq_some_iff.mp h
              obtain ⟨ts', e2, h⟩ := Option.bind_eq_some_iff.mp h
              split at h
              · rename_i hl
                cases h
                exact isi_tup hg hm (hE _ _ e1) (tys_ok C (mapO_ok e2)) (Nat.le_trans hl (by rw [sizeLine_eq]; decide)) (comp_star e1 _ _) rfl rfl
              · cases h
            · rename_i a t hnt
              obtain ⟨f1, e1, h⟩ := Option.bind_eq_some_iff.mp h
              obtain ⟨t', e2, h⟩ := Option.bind_eq_some_iff.mp h
              cases h
              have ht := tyOfE_ok C e2
              exact isi_one hg hm (hE _ _ e1) ht.1 (comp_star e1 _ _) (ht.2.1 _) (by rw [ht.2.1]; rfl)
            · cases h
          · cases h
        · obtain ⟨fs, e1, h⟩ := Option.bind_eq_some_iff.mp h
          exact callE_ok C (mapO_ok e1) hE h
    | Attribute o m pa =>
      cases kws with
      | cons _ _ => cases h
      | nil =>
        have h : (if plainRecv o = true ∧ pa.endLine = p.line ∧ args.length < 20 then
          (mtOf m args.length).bind fun k => (compE n c sc o).bind fun f => (mapO (compE n c sc) args).bind fun fs => some (evMt (mtM' k) f (fs.map evFz))
          else none) = some f := h
        split at h
        · rename_i hr
          obtain ⟨k, e1, h⟩ := Option.bind_eq_some_iff.mp h
          obtain ⟨f1, e2, h⟩ := Option.bind_eq_some_iff.mp h
          obtain ⟨fs, e3, h⟩ := Option.bind_eq_some_iff.mp h
          cases h
          have hp := mapO_ok e3
          have hline : (pa.endLine == p.line) = true := by rw [hr.2.1]; exact beq_self_eq_true _
          have hbase := attr_plain (m := m) hr.1 X.env (eval o X.env)
          cases hp with
          | nil =>
            have hm : (m, k) ∈ mtTab0 := PySem.mem_of_lookup (show mtTab0.lookup m = some k from e1)
            simp only [mtTab0, List.mem_cons, List.mem_nil_iff, or_false, Prod.mk.injEq] at hm
            obtain ⟨rfl, rfl⟩ := hm
            exact pe_mtM0 PySem.F.slot_list_pop PySem.F.type_list_pop ok_pop (hE _ _ e2) hbase hline
          | cons q t =>
            have hA := pa_all (X := X) (mapFz (P := fun e g => compE n c sc e = some g) (fun e g q => ⟨pe_fz (hE e g q), fun es => comp_star q es X.env⟩) (Paired.cons q t))
            have hb := back_ok p X.env t
            have hf := few_ok p X.env (Paired.cons q t)
            have hfew : ∀ (es : List Expr), es.length < 20 → decide (es.length + ([] : List Keyword).length + (if ([] : List Keyword).isEmpty then 0 else 1) < 30) = true := by
              intro es hes
              exact decide_eq_true (by show es.length + 0 + 0 < 30; omega)
            cases t with
            | nil =>
              have hm : (m, k) ∈ mtTab1 := PySem.mem_of_lookup (show mtTab1.lookup m = some k from e1)
              simp only [mtTab1, List.mem_cons, List.mem_nil_iff, or_false, Prod.mk.injEq] at hm
              rcases hm with ⟨rfl, rfl⟩ | ⟨rfl, rfl⟩ | ⟨rfl, rfl⟩
              · exact pe_mtM PySem.F.slot_list_append PySem.F.type_list_append ok_append (hE _ _ e2) hA hbase (by rw [hf, hfew _ hr.2.2]; rfl) hline (comp_star q _ _) hb
              · exact pe_mtM PySem.F.slot_list_pop PySem.F.type_list_pop ok_popAt (hE _ _ e2) hA hbase (by rw [hf, hfew _ hr.2.2]; rfl) hline (comp_star q _ _) hb
              · exact pe_mtM PySem.F.slot_list_remove PySem.F.type_list_remove (ok_remove hu) (hE _ _ e2) hA hbase (by rw [hf, hfew _ hr.2.2]; rfl) hline (comp_star q _ _) hb
            | cons q2 t2 => cases e1
        · cases h
    | _ => cases h
  | ListComp elt gens scope p =>
    match gens, h with
    | [⟨tg, it, ifs, a⟩], h =>
      by_cases ha : a = 0
      · subst ha
        have h : (if blkC c.N sc scope (ownOf c.N scope) = true ∧ isSet it = false then
            (compI n c sc it).bind fun ei => (compG n c (relS scope sc) scope tg).bind fun g =>
            (match ifs with | [] => some etYes | [t] => compT n c (relS scope sc) t | _ => none).bind fun t => (compE n c (relS scope sc) elt).bind fun f =>
            if ((g : Eg × List Nat).2.all fun (i : Nat) => (ownOf c.N scope).any fun (p : Str × Nat) => p.2 == i) = true then some (stl c p (evLc ei g.1 t f ((ownOf c.N scope).map fun (p : Str × Nat) => p.2))) else none
          else none) = some f := h
        split at h
        · rename_i hc
          obtain ⟨ei, e1, h⟩ := Option.bind_eq_some_iff.mp h
          obtain ⟨g, e2, h⟩ := Option.bind_eq_some_iff.mp h
          obtain ⟨t, e3, h⟩ := Option.bind_eq_some_iff.mp h
          obtain ⟨f1, e4, h⟩ := Option.bind_eq_some_iff.mp h
          split at h
          · rename_i hg
            cases h
            have ok : BlkOk X.N X.env.scope scope (ownOf c.N scope) := by rw [C.N, C.sc]; exact blkOk_by hc.1
            have hL : ∀ i ∈ g.2, i ∈ (ownOf c.N scope).map fun (p : Str × Nat) => p.2 := by
              intro i hi
              have := List.all_eq_true.mp hg i hi
              obtain ⟨q, h1, h2⟩ := List.any_eq_true.mp this
              exact List.mem_map.mpr ⟨q, h1, by simpa using h2⟩
            refine stl_ok (pe_lcM C.calm (by rw [C.N]; exact C.nd) (ih.I _ _ _ _ e1 X C tg) ok hL (fun s H a cl fp => ih.G _ _ _ _ _ e2 _ (C.blk ok.kind s H a cl fp) (WsOk.blk s H a cl fp) _ (fun i hi => hi)) (fun s H a cl fp => ?_) (fun s H a cl fp => ih.E _ _ _ _ e4 _ (C.blk ok.kind s H a cl fp)) (noSet_fold _ hc.2))
            split at e3
            · cases e3; exact pts_nilM
            · exact pts_oneM (ih.T _ _ _ _ e3 _ (C.blk ok.kind s H a cl fp))
            · cases e3
          · cases h
        · cases h
      · have : compE (n + 1) c sc (.ListComp elt [⟨tg, it, ifs, a⟩] scope p) = none := by
          unfold compE
          split <;> first | rfl | (rename_i q; cases q; exact absurd rfl ha) | (rename_i q; cases q)
        rw [this] at h
        cases h
    | [], h => cases h
    | _ :: _ :: _, h => simp [compE] at h
  | _ => cases h
end
end L2.MP
/-! MiniPy K: tests, sources, targets; statements. -/
namespace L2.MP
open PySem PySem.Spec PyProof.Rows

section
variable {c : Ct} {sc ws : Scope} {X : Cx}
theorem goodT {n : Nat} (ih : Good n) : ∀ c sc e f, compT (n + 1) c sc e = some f → ∀ X, CtOk c sc X → PT X e (tB X.K f) := by
  intro c sc e f h X C
  have hE : ∀ e g, compE n c sc e = some g → PE X e (tE X.K g) := fun e g q => ih.E c sc e g q X C
  have hT : ∀ e g, compT n c sc e = some g → PT X e (tB X.K g) := fun e g q => ih.T c sc e g q X C
  have hu : X.A.units + 65 < cLine := by have := C.room; omega
  rcases isTrue_plain' h with ⟨g, rfl, h1, h2⟩ | ⟨a, p, rfl⟩ | ⟨o, vs, p, rfl⟩ | ⟨a, os, cs, p, rfl⟩
  · exact pt_truM (hE _ _ h1) (h2 X.env)
  · obtain ⟨f1, e1, h⟩ := Option.bind_eq_some_iff.mp h
    cases h
    exact pt_notM (hT _ _ e1)
  · obtain ⟨fs, e1, h⟩ := Option.bind_eq_some_iff.mp h
    exact (boolT_ok (Paired.mapP (mapO_ok e1) fun e g q => hT e g q) h).pt
  · match os, cs, h with
    | [op], [b], h =>
      have h : (if isSet b then none else (compE n c sc a).bind fun f => (compE n c sc b).bind fun g => some (evCmp (cmpM op) f g)) = some f := h
      split at h
      · cases h
      · rename_i hs
        obtain ⟨f1, e1, h⟩ := Option.bind_eq_some_iff.mp h
        obtain ⟨f2, e2, h⟩ := Option.bind_eq_some_iff.mp h
        cases h
        exact pt_cmpM (ok_cmp hu op) (hE _ _ e1) (hE _ _ e2) (noSet_marks op (by simpa using hs))
    | [op, op'], [b, d], h =>
      have h : (if isSet d then none else (compE n c sc a).bind fun f => (compE n c sc b).bind fun g => (compE n c sc d).bind fun h => some (evCmp2 (cmpM op) (cmpM op') f g h)) = some f := h
      split at h
      · cases h
      · rename_i hs
        obtain ⟨f1, e1, h⟩ := Option.bind_eq_some_iff.mp h
        obtain ⟨f2, e2, h⟩ := Option.bind_eq_some_iff.mp h
        obtain ⟨f3, e3, h⟩ := Option.bind_eq_some_iff.mp h
        cases h
        exact pt_cmp2M (ok_cmp hu op) (ok_cmp hu op') (hE _ _ e1) (hE _ _ e2) (hE _ _ e3) (noSet_marks2 op op' (by simpa using hs))
    | [], _, h => cases h
    | [_], [], h => cases h
    | [_], _ :: _ :: _, h => cases h
    | [_, _], [], h => cases h
    | [_, _], [_], h => cases h
    | [_, _], _ :: _ :: _ :: _, h => cases h
    | _ :: _ :: _ :: _, _, h => cases h
theorem goodI {n : Nat} (ih : Good n) : ∀ c sc e f, compI (n + 1) c sc e = some f → ∀ X, CtOk c sc X → ∀ tg, PI X tg e (iG X.K f) := by
  intro c sc e f h X C tg
  have hE : ∀ e g, compE n c sc e = some g → PE X e (tE X.K g) := fun e g q => ih.E c sc e g q X C
  have plain : ((compE n c sc e).bind fun f => some (eiSeq f)) = some f → PI X tg e (iG X.K f) := by
    intro h
    obtain ⟨f1, e1, h⟩ := Option.bind_eq_some_iff.mp h
    cases h
    exact pi_seqM (hE _ _ e1)
  cases e with
  | Call fn args kws p =>
    cases fn with
    | Name x px =>
      match args, kws, h with
      | [a], [], h =>
        have h : (if isRange x = true then (if isGl sc x = true ∧ (c.G x).isNone = true then (compE n c sc a).bind fun f => some (eiRng1 f) else none) else (compE n c sc (.Call (.Name x px) [a] [] p)).bind fun f => some (eiSeq f)) = some f := h
        split at h
        · rename_i hi
          have hi : x = ("range" : Str) := of_decide_eq_true hi
          subst hi
          split at h
          · rename_i hx
            obtain ⟨f1, e1, h⟩ := Option.bind_eq_some_iff.mp h
            cases h
            exact pi_rng1M (isGl_ok C hx.1) (C.blt _ (by decide +kernel) (none_of_isNone hx.2)) (pa_all (.cons ⟨hE _ _ e1, fun es => comp_star e1 es X.env⟩ .nil)) (comp_star e1 _ _)
          · cases h
        · exact plain h
      | [a, b], [], h =>
        have h : (if isRange x = true then (if isGl sc x = true ∧ (c.G x).isNone = true then (compE n c sc a).bind fun f => (compE n c sc b).bind fun g => some (eiRng2 f g) else none) else (compE n c sc (.Call (.Name x px) [a, b] [] p)).bind fun f => some (eiSeq f)) = some f := h
        split at h
        · rename_i hi
          have hi : x = ("range" : Str) := of_decide_eq_true hi
          subst hi
          split at h
          · rename_i hx
            obtain ⟨f1, e1, h⟩ := Option.bind_eq_some_iff.mp h
            obtain ⟨f2, e2, h⟩ := Option.bind_eq_some_iff.mp h
            cases h
            exact pi_rng2M (isGl_ok C hx.1) (C.blt _ (by decide +kernel) (none_of_isNone hx.2)) (pa_all (.cons ⟨hE _ _ e1, fun es => comp_star e1 es X.env⟩ (.cons ⟨hE _ _ e2, fun es => comp_star e2 es X.env⟩ .nil)))
              (by rw [comp_star e1, comp_star e2]; rfl) (comp_star e2 _ _)
          · cases h
        · exact plain h
      | [], [], h => exact plain h
      | _ :: _ :: _ :: _, [], h => exact plain h
      | [], _ :: _, h => exact plain h
      | [_], _ :: _, h => exact plain h
      | [_, _], _ :: _, h => exact plain h
      | _ :: _ :: _ :: _, _ :: _, h => exact plain h
    | _ => exact plain h
  | _ => exact plain h

theorem compG_star {n : Nat} {e : Expr} {g : Eg × List Nat} (h : compG n c sc ws e = some g) (es : List Expr) (env : Env) : assignEach (e :: es) env = (false, assign e env) :: assignEach es env := by
  cases n with
  | zero => simp [compG] at h
  | succ n => cases e <;> first | rfl | (simp [compG] at h)
theorem gs_shape {n : Nat} (env : Env) : ∀ {es : List Expr} {gs : List (Eg × List Nat)}, Paired (fun e g => compG n c sc ws e = some g) es gs → (assignEach es env).length = gs.length ∧ (assignEach es env).findIdx? (·.1) = none
  | _, _, .nil => ⟨rfl, rfl⟩
  | _, _, .cons h t => by
    obtain ⟨h1, h2⟩ := gs_shape env t
    rw [compG_star h]
    refine ⟨by simp [h1], ?_⟩
    rw [List.findIdx?_cons]
    simp [h2]
theorem goodG {n : Nat} (ih : Good n) : ∀ c sc ws e g, compG (n + 1) c sc ws e = some g → ∀ X, CtOk c sc X → WsOk c ws X → ∀ L, (∀ i ∈ g.2, i ∈ L) → PG X e (tGt X.K L g.1) := by
  intro c sc ws e g h X C W L hL
  have hE : ∀ e g, compE n c sc e = some g → PE X e (tE X.K g) := fun e g q => ih.E c sc e g q X C
  cases e with
  | Name x p =>
    have h : (if isLoc ws x = true then (slot c x).bind fun i => some (egName i, [i]) else none) = some g := h
    split at h
    · rename_i hx
      obtain ⟨i, e1, h⟩ := Option.bind_eq_some_iff.mp h
      cases h
      obtain ⟨w1, w2⟩ := W.st x hx
      exact pg_nameM (hL i (by simp)) (by rw [C.N]; exact C.nd) (by rw [C.N]; exact slot_ok e1) w1 w2
    · cases h
  | Tuple es k p =>
    obtain ⟨gs, e1, h⟩ := Option.bind_eq_some_iff.mp h
    cases h
    have hp := mapO_ok e1
    obtain ⟨h1, h2⟩ := gs_shape X.env hp
    refine pg_tupM C.calm (pgs_allM ?_) (by rw [List.length_map]; exact h1) h2
    have key : ∀ {es : List Expr} {gs : List (Eg × List Nat)}, Paired (fun e g => compG n c sc ws e = some g) es gs → (∀ i ∈ (gs.map (·.2)).flatten, i ∈ L) →
        Paired (fun t g => PG X t (tGt X.K L g) ∧ ∀ es, (assignEach (t :: es) X.env).map (·.2) = assign t X.env :: (assignEach es X.env).map (·.2)) es (gs.map (·.1)) := by
      intro es gs hp
      induction hp with
      | nil => intro _; exact .nil
      | cons q t ih2 =>
        intro hl
        refine .cons ⟨ih.G _ _ _ _ _ q X C W L (fun i hi => hl i (by simp [hi])), fun es => by rw [compG_star q]; rfl⟩ (ih2 fun i hi => hl i ?_)
        rw [List.map_cons, List.flatten_cons]
        exact List.mem_append_right _ hi
    exact key hp hL
  | Subscript a b p =>
    have plain : (∀ lo hi st p2, b ≠ .Slice lo hi st p2) → PG X (.Subscript a b p) (tGt X.K L g.1) := by
      intro hb
      have h : ((compE n c sc a).bind fun f => (compE n c sc b).bind fun g => some (egSub f g, [])) = some g := by
        cases b with
        | Slice lo hi st p2 => exact absurd rfl (hb _ _ _ _)
        | _ => exact h
      obtain ⟨f1, e1, h⟩ := Option.bind_eq_some_iff.mp h
      obtain ⟨f2, e2, h⟩ := Option.bind_eq_some_iff.mp h
      cases h
      refine pg_subM (hE _ _ e1) (hE _ _ e2) ?_
      intro v
      cases b with
      | Slice lo hi st p2 => exact absurd rfl (hb _ _ _ _)
      | _ => rfl
    cases b with
    | Slice lo hi st p2 => cases h
    | _ => exact plain fun _ _ _ _ z => nomatch z
  | _ => cases h
theorem good : ∀ n, Good n
  | 0 => ⟨fun _ _ _ _ h => by simp [compE] at h, fun _ _ _ _ h => by simp [compT] at h, fun _ _ _ _ h => by simp [compI] at h, fun _ _ _ _ _ h => by simp [compG] at h⟩
  | n + 1 => ⟨goodE (good n), goodT (good n), goodI (good n), goodG (good n)⟩
end

/-! ### statements -/
def augM : Operator → Option (MV → MV → Mh → Option R)
  | .Add => some (fun a b hp => match a, b with
    | .d (.int i), .d (.int j) => iv (i + j)
    | _, _ => none)
  | .Sub => some opSub
  | _ => none
theorem augM_ok {X : Cx} {op : Operator} {o : MV → MV → Mh → Option R} (h : augM op = some o) : OpR X (inplaceOp op) (rOp X.K o) := by
  cases op <;> first | skip | cases h
  · cases h
    intro pins s σ H x y v u Q I rx ry h
    obtain ⟨w, hp, a, b, r, S, ra, rb, e, q⟩ := h
    simp only at e
    split at e
    · cases e
      cases ra
      cases rb
      exact iop_add pins s σ H _ _ v u Q I rx ry ⟨_, _, rfl, rfl, q _ _ _ (Post.refl _ _) S (.int _)⟩
    · cases e
  · cases h
    intro pins s σ H x y v u Q I rx ry h
    obtain ⟨w, hp, a, b, r, S, ra, rb, e, q⟩ := h
    unfold opSub at e
    split at e
    · cases e
      cases ra
      cases rb
      exact iop_sub pins s σ H _ _ v u Q I rx ry ⟨_, _, rfl, rfl, q _ _ _ (Post.refl _ _) S (.int _)⟩
    · cases e
  all_goals cases h

def isComp : Expr → Bool
  | .ListComp .. => true
  | .SetComp .. => true
  | .DictComp .. => true
  | _ => false
theorem noComp_swaps {e : Expr} (h : isComp e = false) (t : Option Expr) (l : Nat) (env : Env) : swapsWith e t l env = pure false := by
  cases e <;> first | rfl | cases h
/-- plain names that the interpreter stores from the right: their slots -/
def isTup : Expr → Bool
  | .Tuple .. => true
  | _ => false
def starred : Expr → Bool
  | .Starred .. => true
  | _ => false
/-- the form of x, y = a, b and of x, y, z = a, b, c -/
def locName (sc : Scope) (line : Nat) : Expr → Option Str
  | .Name id pos => if sc.names.lookup id == some .local && pos.line == line then some id else none
  | _ => none
def localNames (ts : List Expr) (sc : Scope) (line : Nat) : List Str := ts.filterMap (locName sc line)
def swapped (ts vs : List Expr) (sc : Scope) : Option (Option (List Str)) :=
  if !(ts.length == 2 || ts.length == 3) || vs.length != ts.length then some none else
  let line := (ts.head?.map (·.pos.line)).getD 0
  let names := localNames ts sc line
  if names.length != ts.length || names.eraseDups.length != names.length then some none
  else if vs.all (foldedForSure 8) then some none
  else if vs.all (constantsAlone 8) then none
  else some (some names)
theorem swapped_ok {ts vs : List Expr} {k1 k2 : Nat} {p1 p2 : Pos} {env : Env} (hk : env.scope.kind = .function) (hv : vs.all (fun e => !starred e) = true) {r : Option (List Str)} (h : swapped ts vs env.scope = some r) :
    swappedStores [.Tuple ts k1 p1] (.Tuple vs k2 p2) env = pure r := by
  have hb : env.blockKind = .function := by unfold Env.blockKind; rw [hk]; rfl
  have hst : ∀ p : Expr → Bool, (∀ e, starred e = false → p e = false) → ¬ (vs.any p = true) := by
    intro p hp h
    obtain ⟨e, he, h1⟩ := List.any_eq_true.mp h
    have h2 := List.all_eq_true.mp hv e he
    rw [hp e (by simpa using h2)] at h1
    cases h1
  unfold swapped at h
  unfold swappedStores
  simp only [hb, bne_self_eq_false, Bool.or_false]
  split at h
  · rename_i h1
    cases h
    rw [if_pos h1]
  · rename_i h1
    rw [if_neg h1]
    refine Eq.trans (if_neg (hst _ fun e he => by cases e <;> first | rfl | cases he)) ?_
    simp only at h
    split at h
    · rename_i h2
      cases h
      refine Eq.trans (if_pos ?hh) ?_
      case hh => exact h2
      rfl
    · rename_i h2
      refine Eq.trans (if_neg ?hh) ?_
      case hh => exact h2
      split at h
      · rename_i h3
        cases h
        rw [if_pos h3]
      · rename_i h3
        rw [if_neg h3]
        split at h
        · cases h
        · rename_i h4
          cases h
          rw [if_neg h4]
          rfl
end L2.MP
/-! MiniPy L: statements and defs. -/
namespace L2.MP
open PySem PySem.Spec PyProof.Rows

def isName : Expr → Bool
  | .Name .. => true
  | _ => false
/-- the slots of plain names -/
def nameSlots (c : Ct) : List Expr → Option (List Nat)
  | [] => some []
  | .Name x _ :: r => (slot c x).bind fun i => (nameSlots c r).bind fun is => some (i :: is)
  | _ :: _ => none
/-- a, b, .. = x, y, .. -/
def parS (n : Nat) (c : Ct) (sc : Scope) (ts es : List Expr) : Option ES :=
  (mapO (compE n c sc) es).bind fun fs => (swapped ts es sc).bind fun r => match r with
    | some _ => (nameSlots c ts).bind fun is => if is.Nodup ∧ fs.length = is.length then some (esPar fs (is.map egName)) else none
    | none => (mapO (compG n c sc sc) ts).bind fun gs => if fs.length = gs.length ∧ fs.length ≤ 20 then some (esPar fs (gs.map fun (p : Eg × List Nat) => p.1)) else none
def retE (c : Ct) (pos : Pos) (f : Ev) : Ev := if c.mks.contains (pos.line, pos.col) then f else evFz f
def asgS (n : Nat) (c : Ct) (sc : Scope) (tg e : Expr) : Option ES := match tg, e with
  | .Tuple ts _ _, .Tuple es _ _ => parS n c sc ts es
  | tg, e => (compE n c sc e).bind fun f => (compG n c sc sc tg).bind fun g => some (esAsg f g.1)
def compS : Nat → Ct → Scope → Stmt → Option ES
  | 0, _, _, _ => none
  | n + 1, c, sc, st => match st with
    | .Assign [tg] e _ => asgS n c sc tg e
    | .AugAssign (.Name x _) op e _ => if isLoc sc x = true then (slot c x).bind fun i => (augM op).bind fun o => (compE n c sc e).bind fun f => some (esAug i o f) else none
    | .Expr e _ => if isComp e = true then none else (compE n c sc e).bind fun f => some (esExpr f)
    | .Return (some e) pos => (compE n c sc e).bind fun f => some (esRet (retE c pos f))
    | .Return none _ => some esRetN
    | .If t a b _ => (compT n c sc t).bind fun t => (mapO (compS n c sc) a).bind fun a => (mapO (compS n c sc) b).bind fun b => some (esIf t (esSeq a) (esSeq b))
    | .While t b [] _ => (compT n c sc t).bind fun t => (mapO (compS n c sc) b).bind fun b => some (goWhile t (esSeq b) c.fuel)
    | .For tg it b [] _ => if isSet it = true then none else (compI n c sc it).bind fun it => (compG n c sc sc tg).bind fun g => (mapO (compS n c sc) b).bind fun b => some (esFor it g.1 (esSeq b))
    | .Break _ => some esBreak
    | .Continue _ => some esCont
    | _ => none

section
variable {c : Ct} {sc : Scope} {X : Cx}
/-- a comprehension's parts -/
theorem lc_inv {n : Nat} {elt : Expr} {gens : List Comprehension} {scope : Scope} {p : Pos} {f : Ev} (h : compE (n + 1) c sc (.ListComp elt gens scope p) = some f) :
    ∃ tg it ifs ei g t f1, gens = [⟨tg, it, ifs, 0⟩] ∧ blkC c.N sc scope (ownOf c.N scope) = true ∧ isSet it = false ∧ compI n c sc it = some ei ∧ compG n c (relS scope sc) scope tg = some g ∧
      (match ifs with | [] => some etYes | [t] => compT n c (relS scope sc) t | _ => none) = some t ∧ compE n c (relS scope sc) elt = some f1 ∧ (∀ i ∈ g.2, i ∈ (ownOf c.N scope).map fun (p : Str × Nat) => p.2) ∧
      f = stl c p (evLc ei g.1 t f1 ((ownOf c.N scope).map fun (p : Str × Nat) => p.2)) := by
  match gens, h with
  | [⟨tg, it, ifs, a⟩], h =>
    by_cases ha : a = 0
    · subst ha
      have h : (if blkC c.N sc scope (ownOf c.N scope) = true ∧ isSet it = false then
          (compI n c sc it).bind fun ei => (compG n c (relS scope sc) scope tg).bind fun g =>
          (match ifs with | [] => some etYes | [t] => compT n c (relS scope sc) t | _ => none).bind fun t => (compE n c (relS scope sc) elt).bind fun f =>
          if ((g : Eg × List Nat).2.all fun (i : Nat) => (ownOf c.N scope).any fun (p : Str × Nat) => p.2 == i) = true then some (stl c p (evLc ei g.1 t f ((ownOf c.N scope).map fun (p : Str × Nat) => p.2))) else none
        else none) = some f := h
      split at h
      · rename_i hc
        obtain ⟨ei, e1, h⟩ := Option.bind_eq_some_iff.mp h
        obtain ⟨g, e2, h⟩ := Option.bind_eq_some_iff.mp h
        obtain ⟨t, e3, h⟩ := Option.bind_eq_some_iff.mp h
        obtain ⟨f1, e4, h⟩ := Option.bind_eq_some_iff.mp h
        split at h
        · rename_i hg
          cases h
          refine ⟨tg, it, ifs, ei, g, t, f1, rfl, hc.1, hc.2, e1, e2, e3, e4, ?_, rfl⟩
          intro i hi
          have := List.all_eq_true.mp hg i hi
          obtain ⟨q, h1, h2⟩ := List.any_eq_true.mp this
          exact List.mem_map.mpr ⟨q, h1, by simpa using h2⟩
        · cases h
      · cases h
    · have : compE (n + 1) c sc (.ListComp elt [⟨tg, it, ifs, a⟩] scope p) = none := by
        unfold compE
        split <;> first | rfl | (rename_i q; cases q; exact absurd rfl ha) | (rename_i q; cases q)
      rw [this] at h
      cases h
  | [], h => cases h
  | _ :: _ :: _, h => simp [compE] at h
theorem swaps_lc {elt : Expr} {gens : List Comprehension} {scope : Scope} {p py : Pos} {y : Str} {l : Nat} {env : Env} : ∃ b : Bool, swapsWith (.ListComp elt gens scope p) (some (.Name y py)) l env = pure b ∧ (b = true → env.scope.names.lookup y = some .local) := by
  refine ⟨env.blockKind == .function && env.kindOf y == some .local && py.line == p.line && !(scope.names.any fun (n, k) => n == y && (k == .local || k == .cell)), rfl, fun h => ?_⟩
  simp only [Bool.and_eq_true, beq_iff_eq] at h
  exact h.1.1.2
theorem set_ok (C : CtOk c sc X) (W : WsOk c sc X) {n : Nat} {e : Expr} {f : Ev} {x : Str} {px pos : Pos} {i : Nat} (he : compE n c sc e = some f) (hx : isLoc sc x = true) (hi : slot c x = some i) :
    PS X (.Assign [.Name x px] e pos) (tS X.K (esAsg f (egName i))) := by
  obtain ⟨w1, w2⟩ := W.st x hx
  have hN : X.N.Nodup := by rw [C.N]; exact C.nd
  have hi' : X.N[i]? = some x := by rw [C.N]; exact slot_ok hi
  have hE := (good n).E _ _ _ _ he X C
  by_cases hc : isComp e = false
  · exact ps_setM hN hi' w1 hE (noComp_swaps hc _ _ _) w2
  · cases e with
    | ListComp elt gens scope p =>
      obtain ⟨b, hb, hloc⟩ := swaps_lc (elt := elt) (gens := gens) (scope := scope) (p := p) (py := px) (y := x) (l := pos.line) (env := X.env)
      cases b with
      | false => exact ps_setM hN hi' w1 hE hb w2
      | true =>
        cases n with
        | zero => simp [compE] at he
        | succ n =>
          obtain ⟨tg, it, ifs, ei, g, t, f1, rfl, h1, h2, e1, e2, e3, e4, hL, rfl⟩ := lc_inv he
          have ok : BlkOk X.N X.env.scope scope (ownOf c.N scope) := by rw [C.N, C.sc]; exact blkOk_by h1
          refine ps_setLcM (t := t) C.calm hN hi' (hloc rfl) hb ((good n).I _ _ _ _ e1 X C tg) ok hL (fun s H a cl fp => (good n).G _ _ _ _ _ e2 _ (C.blk ok.kind s H a cl fp) (WsOk.blk s H a cl fp) _ (fun i hi => hi)) (fun s H a cl fp => ?_) (fun s H a cl fp => (good n).E _ _ _ _ e4 _ (C.blk ok.kind s H a cl fp)) (noSet_fold _ h2) ?_
          · split at e3
            · cases e3; exact pts_nilM
            · exact pts_oneM ((good n).T _ _ _ _ e3 _ (C.blk ok.kind s H a cl fp))
            · cases e3
          · unfold stl
            split
            · exact .inr rfl
            · exact .inl rfl
    | SetComp _ _ _ _ =>
      cases n with
      | zero => simp [compE] at he
      | succ n => simp [compE] at he
    | DictComp _ _ _ _ _ =>
      cases n with
      | zero => simp [compE] at he
      | succ n => simp [compE] at he
    | _ => exact absurd rfl hc
theorem nameSlots_ok (C : CtOk c sc X) : ∀ {ts : List Expr} {is : List Nat}, nameSlots c ts = some is → ts.length = is.length
  | [], _, h => by cases h; rfl
  | .Name x p :: r, _, h => by
    obtain ⟨i, e1, h⟩ := Option.bind_eq_some_iff.mp h
    obtain ⟨is, e2, h⟩ := Option.bind_eq_some_iff.mp h
    cases h
    simp [nameSlots_ok C e2]
  | .BoolOp .. :: _, _, h => by cases h
  | .NamedExpr .. :: _, _, h => by cases h
  | .BinOp .. :: _, _, h => by cases h
  | .UnaryOp .. :: _, _, h => by cases h
  | .Lambda .. :: _, _, h => by cases h
  | .IfExp .. :: _, _, h => by cases h
  | .Dict .. :: _, _, h => by cases h
  | .Set .. :: _, _, h => by cases h
  | .ListComp .. :: _, _, h => by cases h
  | .SetComp .. :: _, _, h => by cases h
  | .DictComp .. :: _, _, h => by cases h
  | .GeneratorExp .. :: _, _, h => by cases h
  | .Await .. :: _, _, h => by cases h
  | .Yield .. :: _, _, h => by cases h
  | .YieldFrom .. :: _, _, h => by cases h
  | .Compare .. :: _, _, h => by cases h
  | .Call .. :: _, _, h => by cases h
  | .FormattedValue .. :: _, _, h => by cases h
  | .JoinedStr .. :: _, _, h => by cases h
  | .Constant .. :: _, _, h => by cases h
  | .Attribute .. :: _, _, h => by cases h
  | .Subscript .. :: _, _, h => by cases h
  | .Starred .. :: _, _, h => by cases h
  | .List .. :: _, _, h => by cases h
  | .Tuple .. :: _, _, h => by cases h
  | .Slice .. :: _, _, h => by cases h
theorem nameSlots_cons {t : Expr} {r : List Expr} {is : List Nat} (h : nameSlots c (t :: r) = some is) : ∃ x p i js, t = .Name x p ∧ slot c x = some i ∧ nameSlots c r = some js ∧ is = i :: js := by
  cases t with
  | Name x p =>
    obtain ⟨i, e1, h⟩ := Option.bind_eq_some_iff.mp h
    obtain ⟨js, e2, h⟩ := Option.bind_eq_some_iff.mp h
    cases h
    exact ⟨x, p, i, js, rfl, e1, e2, rfl⟩
  | _ => cases h
theorem swapped_some {ts es : List Expr} {ns : List Str} (h : swapped ts es sc = some (some ns)) : (ts.length = 2 ∨ ts.length = 3) ∧ es.length = ts.length ∧ ns = localNames ts sc ((ts.head?.map (·.pos.line)).getD 0) ∧ ns.length = ts.length := by
  unfold swapped at h
  split at h
  · cases h
  · rename_i h1
    simp only at h
    split at h
    · cases h
    · rename_i h2
      split at h
      · cases h
      · split at h
        · cases h
        · cases h
          simp at h1 h2
          exact ⟨by omega, h1.2, rfl, h2.1⟩
theorem localNames_all {ts : List Expr} {l : Nat} (h : (localNames ts sc l).length = ts.length) : ∀ t ∈ ts, ∃ x, locName sc l t = some x := by
  unfold localNames at h
  have := List.filterMap_length_eq_length.mp h
  intro t ht
  exact Option.isSome_iff_exists.mp (this t ht)
theorem locName_name {l : Nat} {x y : Str} {p : Pos} (h : locName sc l (.Name x p) = some y) : y = x ∧ sc.names.lookup x = some .local := by
  have h : (if sc.names.lookup x == some .local && p.line == l then some x else none) = some y := h
  split at h
  · rename_i hx
    cases h
    simp at hx
    exact ⟨rfl, hx.1⟩
  · cases h
theorem len2 {α : Type} {l : List α} (h : l.length = 2) : ∃ a b, l = [a, b] := by
  match l, h with
  | [a, b], _ => exact ⟨a, b, rfl⟩
theorem len3 {α : Type} {l : List α} (h : l.length = 3) : ∃ a b c, l = [a, b, c] := by
  match l, h with
  | [a, b, c], _ => exact ⟨a, b, c, rfl⟩
theorem tup_swaps {es : List Expr} {k : Nat} {p : Pos} {t : Expr} {l : Nat} {env : Env} : swapsWithSole [t] (.Tuple es k p) l env = pure false := rfl
theorem compE_noStar {n : Nat} {es : List Expr} {fs : List Ev} (h : Paired (fun e g => compE n c sc e = some g) es fs) : es.all (fun e => !starred e) = true := by
  induction h with
  | nil => rfl
  | cons q t ih =>
    rw [List.all_cons, ih, Bool.and_true]
    cases n with
    | zero => simp [compE] at q
    | succ n =>
      rename_i e _ _ _
      cases e <;> first | rfl | (simp [compE] at q)
theorem par_ok (C : CtOk c sc X) (W : WsOk c sc X) {n : Nat} {ts es : List Expr} {k1 k2 : Nat} {p1 p2 pos : Pos} {f : ES} (h : parS n c sc ts es = some f) : PS X (.Assign [.Tuple ts k1 p1] (.Tuple es k2 p2) pos) (tS X.K f) := by
  obtain ⟨fs, e1, h⟩ := Option.bind_eq_some_iff.mp h
  obtain ⟨r, e2, h⟩ := Option.bind_eq_some_iff.mp h
  have hp := mapO_ok e1
  have hA : PA X es (tAs X.K (evAll fs)) := pa_all (Paired.mapP hp fun e g q => ⟨(good n).E _ _ _ _ q X C, fun es => comp_star q es X.env⟩)
  have hk : X.env.scope.kind = .function := by rw [C.sc]; exact C.kind
  have hsw := fun (k1 k2 : Nat) (p1 p2 : Pos) => swapped_ok (ts := ts) (k1 := k1) (k2 := k2) (p1 := p1) (p2 := p2) hk (compE_noStar hp) (by rw [C.sc]; exact e2)
  have hN : X.N.Nodup := by rw [C.N]; exact C.nd
  cases r with
  | none =>
    obtain ⟨gs, e3, h⟩ := Option.bind_eq_some_iff.mp h
    split at h
    · rename_i hl
      cases h
      have hg := mapO_ok e3
      obtain ⟨s1, s2⟩ := gs_shape X.env hg
      have key : ∀ {es : List Expr} {gs : List (Eg × List Nat)}, Paired (fun e g => compG n c sc sc e = some g) es gs → ∀ L, (∀ i ∈ (gs.map (fun (p : Eg × List Nat) => p.2)).flatten, i ∈ L) →
          Paired (fun t g => PG X t (tGt X.K L g) ∧ ∀ es, (assignEach (t :: es) X.env).map (·.2) = assign t X.env :: (assignEach es X.env).map (·.2)) es (gs.map fun (p : Eg × List Nat) => p.1) := by
        intro es gs hp L
        induction hp with
        | nil => intro _; exact .nil
        | cons q t ih2 =>
          intro hl
          refine .cons ⟨(good n).G _ _ _ _ _ q X C W L (fun i hi => hl i (by simp [hi])), fun es => by rw [compG_star q]; rfl⟩ (ih2 fun i hi => hl i ?_)
          rw [List.map_cons, List.flatten_cons]
          exact List.mem_append_right _ hi
      exact ps_parM (L := (gs.map (fun (p : Eg × List Nat) => p.2)).flatten) C.calm hA (pgs_allM (key hg _ fun i hi => hi)) (by rw [List.length_map]; exact hl.1) (Nat.le_trans hl.2 (by rw [sizeLine_eq]; decide)) (by rw [List.length_map]; exact s1) s2 tup_swaps (hsw _ _ _ _) rfl
    · cases h
  | some ns =>
    obtain ⟨is, e3, h⟩ := Option.bind_eq_some_iff.mp h
    split at h
    · rename_i hl
      cases h
      obtain ⟨q1, q2, q3, q4⟩ := swapped_some e2
      have hall := localNames_all (by rw [← q3]; exact q4)
      have hlen := nameSlots_ok C e3
      rcases q1 with q1 | q1
      · obtain ⟨t1, t2, rfl⟩ := len2 q1
        obtain ⟨a, b, rfl⟩ := len2 (q2.trans q1)
        obtain ⟨x, px, i, js, rfl, i1, e4, rfl⟩ := nameSlots_cons e3
        obtain ⟨y, py, j, js, rfl, i2, e5, rfl⟩ := nameSlots_cons e4
        cases e5
        obtain ⟨x', l1⟩ := hall _ (List.mem_cons_self)
        obtain ⟨y', l2⟩ := hall _ (List.mem_cons_of_mem _ List.mem_cons_self)
        obtain ⟨rfl, m1⟩ := locName_name l1
        obtain ⟨rfl, m2⟩ := locName_name l2
        have hns : ns = [x', y'] := by
          rw [q3]
          unfold localNames
          rw [List.filterMap_cons_some l1, List.filterMap_cons_some l2]
          rfl
        subst hns
        have hij : i ≠ j := by
          have := hl.1
          simp at this
          exact this
        rw [← C.sc] at m1 m2
        exact ps_par2M C.calm hN (by rw [C.N]; exact slot_ok i1) (by rw [C.N]; exact slot_ok i2) hij m1 m2 hA (hsw _ _ _ _) tup_swaps
      · obtain ⟨t1, t2, t3, rfl⟩ := len3 q1
        obtain ⟨a, b, d, rfl⟩ := len3 (q2.trans q1)
        obtain ⟨x, px, i, js, rfl, i1, e4, rfl⟩ := nameSlots_cons e3
        obtain ⟨y, py, j, js, rfl, i2, e5, rfl⟩ := nameSlots_cons e4
        obtain ⟨z, pz, l, js, rfl, i3, e6, rfl⟩ := nameSlots_cons e5
        cases e6
        obtain ⟨x', l1⟩ := hall _ (List.mem_cons_self)
        obtain ⟨y', l2⟩ := hall _ (List.mem_cons_of_mem _ List.mem_cons_self)
        obtain ⟨z', l3⟩ := hall _ (List.mem_cons_of_mem _ (List.mem_cons_of_mem _ List.mem_cons_self))
        obtain ⟨rfl, m1⟩ := locName_name l1
        obtain ⟨rfl, m2⟩ := locName_name l2
        obtain ⟨rfl, m3⟩ := locName_name l3
        have hns : ns = [x', y', z'] := by
          rw [q3]
          unfold localNames
          rw [List.filterMap_cons_some l1, List.filterMap_cons_some l2, List.filterMap_cons_some l3]
          rfl
        subst hns
        have hij := hl.1
        simp at hij
        rw [← C.sc] at m1 m2 m3
        exact ps_par3M C.calm hN (by rw [C.N]; exact slot_ok i1) (by rw [C.N]; exact slot_ok i2) (by rw [C.N]; exact slot_ok i3) hij.1.1 hij.1.2 hij.2 m1 m2 m3 hA (hsw _ _ _ _) tup_swaps
    · cases h
theorem retE_ok {e : Expr} {f : Ev} {pos : Pos} (h : PE X e (tE X.K f)) : PE X e (tE X.K (retE c pos f)) := by
  unfold retE
  split
  · exact h
  · exact pe_fz h
theorem noTup_stores {tg e : Expr} {env : Env} (h : isTup e = false) : swappedStores [tg] e env = pure none := by
  cases e <;> first | (cases tg <;> rfl) | cases h
theorem noTup_stores2 {tg e : Expr} {env : Env} (h : isTup tg = false) (h2 : ∀ es p, tg ≠ .List es p) : swappedStores [tg] e env = pure none := by
  cases tg <;> first | exact absurd rfl (h2 _ _) | (cases e <;> rfl) | cases h
theorem noName_swaps {tg e : Expr} {l : Nat} {env : Env} (h : isName tg = false) : swapsWithSole [tg] e l env = pure false := by
  show swapsWith e (some tg) l env = pure false
  cases e <;> first | rfl | (cases tg <;> first | rfl | cases h)
theorem asg_ok (C : CtOk c sc X) (W : WsOk c sc X) {n : Nat} {tg e : Expr} {pos : Pos} {f : ES} (h : asgS n c sc tg e = some f) : PS X (.Assign [tg] e pos) (tS X.K f) := by
  unfold asgS at h
  split at h
  · exact par_ok C W h
  · rename_i hnt
    obtain ⟨f1, e1, h⟩ := Option.bind_eq_some_iff.mp h
    obtain ⟨g, e2, h⟩ := Option.bind_eq_some_iff.mp h
    cases h
    cases n with
    | zero => simp [compE] at e1
    | succ n =>
      cases tg with
      | Name x px =>
        have e2 : (if isLoc sc x = true then (slot c x).bind fun i => some (egName i, [i]) else none) = some g := e2
        split at e2
        · rename_i hx
          obtain ⟨i, e3, e2⟩ := Option.bind_eq_some_iff.mp e2
          cases e2
          exact set_ok C W e1 hx e3
        · cases e2
      | Tuple ts k p1 =>
        have ht : isTup e = false := by
          cases e <;> first | rfl | exact absurd rfl (hnt _ _ _ _ _ _ rfl)
        exact ps_asgM ((good _).E _ _ _ _ e1 X C) ((good _).G _ _ _ _ _ e2 X C W g.2 fun i hi => hi) (noName_swaps rfl) (noTup_stores ht) rfl
      | Subscript a b p1 => exact ps_asgM ((good _).E _ _ _ _ e1 X C) ((good _).G _ _ _ _ _ e2 X C W g.2 fun i hi => hi) (noName_swaps rfl) (noTup_stores2 rfl fun _ _ z => nomatch z) rfl
      | _ => cases e2

/-- statements -/
theorem goodS (hP : ∀ {X : Cx}, X.xe = (fun _ _ => False) → PassesOwn (model X.prog X.w) X.A X.env X.xe) : ∀ n c sc st f, compS n c sc st = some f → ∀ X, CtOk c sc X → WsOk c sc X → X.xe = (fun _ _ => False) → PS X st (tS X.K f)
  | 0, _, _, _, _, h => by cases h
  | n + 1, c, sc, st, f, h => by
    intro X C W hx
    have hE : ∀ e g, compE n c sc e = some g → PE X e (tE X.K g) := fun e g q => (good n).E c sc e g q X C
    have hSs : ∀ {ss fs}, mapO (compS n c sc) ss = some fs → PSs X ss (tS X.K (esSeq fs)) := fun {ss fs} q => pss_allM (Paired.mapP (mapO_ok q) fun st g z => goodS hP n c sc st g z X C W hx)
    cases st with
    | Assign tgs e p =>
      match tgs, h with
      | [tg], h => exact asg_ok C W h
      | [], h => cases h
      | _ :: _ :: _, h => cases h
    | AugAssign tg op e p =>
      cases tg with
      | Name x px =>
        have h : (if isLoc sc x = true then (slot c x).bind fun i => (augM op).bind fun o => (compE n c sc e).bind fun f => some (esAug i o f) else none) = some f := h
        split at h
        · rename_i hx'
          obtain ⟨i, e1, h⟩ := Option.bind_eq_some_iff.mp h
          obtain ⟨o, e2, h⟩ := Option.bind_eq_some_iff.mp h
          obtain ⟨f1, e3, h⟩ := Option.bind_eq_some_iff.mp h
          cases h
          obtain ⟨w1, w2⟩ := W.st x hx'
          exact ps_augM (by rw [C.N]; exact C.nd) (by rw [C.N]; exact slot_ok e1) w1 (hE _ _ e3) (augM_ok e2) w2
        · cases h
      | _ => cases h
    | Expr e p =>
      have h : (if isComp e = true then none else (compE n c sc e).bind fun f => some (esExpr f)) = some f := h
      split at h
      · cases h
      · rename_i hc
        obtain ⟨f1, e1, h⟩ := Option.bind_eq_some_iff.mp h
        cases h
        exact ps_exprM (hE _ _ e1) (noComp_swaps (by simpa using hc) _ _ _)
    | Return o p =>
      cases o with
      | none => cases h; exact ps_retNM
      | some e =>
        obtain ⟨f1, e1, h⟩ := Option.bind_eq_some_iff.mp h
        cases h
        exact ps_retM (retE_ok (hE _ _ e1))
    | If t a b p =>
      obtain ⟨t', e1, h⟩ := Option.bind_eq_some_iff.mp h
      obtain ⟨a', e2, h⟩ := Option.bind_eq_some_iff.mp h
      obtain ⟨b', e3, h⟩ := Option.bind_eq_some_iff.mp h
      cases h
      exact ps_ifM ((good n).T _ _ _ _ e1 X C) (hSs e2) (hSs e3)
    | While t b o p =>
      cases o with
      | nil =>
        obtain ⟨t', e1, h⟩ := Option.bind_eq_some_iff.mp h
        obtain ⟨b', e2, h⟩ := Option.bind_eq_some_iff.mp h
        cases h
        exact ps_whileM c.fuel (hP hx) ((good n).T _ _ _ _ e1 X C) (hSs e2)
      | cons _ _ => cases h
    | For tg it b o p =>
      cases o with
      | nil =>
        have h : (if isSet it = true then none else (compI n c sc it).bind fun it => (compG n c sc sc tg).bind fun g => (mapO (compS n c sc) b).bind fun b => some (esFor it g.1 (esSeq b))) = some f := h
        split at h
        · cases h
        · rename_i hs
          obtain ⟨it', e1, h⟩ := Option.bind_eq_some_iff.mp h
          obtain ⟨g, e2, h⟩ := Option.bind_eq_some_iff.mp h
          obtain ⟨b', e3, h⟩ := Option.bind_eq_some_iff.mp h
          cases h
          exact ps_forM (hP hx) C.calm ((good n).I _ _ _ _ e1 X C tg) ((good n).G _ _ _ _ _ e2 X C W g.2 fun i hi => hi) (hSs e3) (noSet_fold _ (by simpa using hs))
      | cons _ _ => cases h
    | Break p => cases h; exact ps_breakM
    | Continue p => cases h; exact ps_contM
    | _ => cases h
end
end L2.MP
/-! MiniPy M: the whole text: what its defs answer, by levels. -/
namespace L2.MP
open PySem PySem.Spec PyProof.Rows

/-- a def of the text: its name, its statement, its names by slot, its parameters, the places whose lists may change -/
structure Fd where
  x : Str
  st : Stmt
  N : List Str
  ps : List Str
  mks : List (Nat × Nat)
  rf : List Nat

def gOf (T : List Fd) (gd : List (Str × MV)) (x : Str) : Option GV :=
  match T.findIdx? (fun d => decide (d.x = x)) with
  | some k => match T[k]? with
    | some d => some (.fn k d.ps.length d.rf)
    | none => none
  | none => (gd.lookup x).map .dat
def bodyOf (T : List Fd) (gd : List (Str × MV)) (m : Nat) (φ : Nat → List MV → Mh → Option (MV × Mh)) (d : Fd) : Option ES :=
  (mapO (compS 40 { N := d.N, G := gOf T gd, mks := d.mks, fuel := m, φ := φ } (defScope d.st)) (defBody d.st)).map esSeq
def runBody (f : ES) (nl : Nat) (as : List MV) (hp : Mh) : Option (MV × Mh) :=
  match f (as.map some ++ List.replicate (nl - as.length) none) hp with
  | some (.nx, _, hp') => some (.d .none, hp'.take hp.length)
  | some (.rt (.d x), _, hp') => some (.d x, hp'.take hp.length)
  | some (.rt (.c n), _, hp') => some (.c n, hp')
  | _ => none
/-- what the k-th def answers, at most n calls deep -/
def sem (T : List Fd) (gd : List (Str × MV)) (m : Nat) : Nat → Nat → List MV → Mh → Option (MV × Mh)
  | 0, _, _, _ => none
  | n + 1, k, as, hp => match T[k]? with
    | some d => if as.length = d.ps.length then match bodyOf T gd m (sem T gd m n) d with
        | some f => runBody f d.N.length as hp
        | none => none
      else none
    | none => none

structure ProgOk (K : PySem.W.Frag) (mg : Str → Option Value) (T : List Fd) (gd : List (Str × MV)) : Prop where
  fns : ∀ (k : Nat) (d : Fd), T[k]? = some d → ∃ f fd, mg d.x = some (.ref f) ∧ Fun K d.x d.x d.st f fd ∧ Binds K fd d.ps []
  sco : ∀ d ∈ T, FnScope d.N d.ps (defScope d.st)
  dat : ∀ x v, gd.lookup x = some v → ∃ u vv, mg x = some u ∧ RelV vv u ∧ ∀ w, RepM K w v vv
  blt : ∀ x ∈ bltNames, mg x = none

section
variable {K : PySem.W.Frag}
/-- the cells of a def's own are gone behind it -/
theorem HSim.cut {w w' : Wd} {H H' : Hp} {hp hp' : Mh} (S : HSim K w H hp) (P : Post w H w' H') (S' : HSim K w' H' hp') : ∃ w2, Post w H w2 H' ∧ HSim K w2 H' (hp'.take hp.length) ∧ w2.F = w'.F := by
  obtain ⟨l, hl⟩ := P.le.mu
  have hn : hp.length = w.mu.length := S.len.symm
  have ht : w'.mu.take hp.length = w.mu := by rw [hl, hn, List.take_left']; rfl
  refine ⟨{ F := w'.F, mu := w.mu }, ⟨⟨P.le.F, [], by simp⟩, fun a h => .inl h, P.newF, P.fr⟩, ⟨S'.sub, ?_, S.nd, fun a ha => S'.trk a (P.le.mem ha), fun n c q => ?_⟩, rfl⟩
  · show w.mu.length = (hp'.take hp.length).length
    rw [List.length_take, ← S'.len, hl, List.length_append, ← hn]
    omega
  · have hlt : n < hp.length := by
      have := (List.getElem?_eq_some_iff.mp q).1
      rw [List.length_take] at this
      omega
    rw [List.getElem?_take_of_lt hlt] at q
    obtain ⟨a, h1, h2⟩ := S'.cell n c q
    have get : ∀ i, i < hp.length → w.mu[i]? = w'.mu[i]? := fun i hi => by
      rw [hl, List.getElem?_append_left (by omega)]
    refine ⟨a, by show w.mu[n]? = some a; rw [get n hlt]; exact h1, ?_⟩
    cases c with
    | lst xs =>
      obtain ⟨q1, vs, q2, q3, q4⟩ := h2
      refine ⟨q1, vs, q2, ?_, q4⟩
      have key : ∀ {xs : List MV} {vs : List V}, RepMs K w' xs vs → (∀ j, MV.c j ∈ xs → j < n) → RepMs K { F := w'.F, mu := w.mu } xs vs := by
        intro xs vs r
        induction r with
        | nil => intro _; exact .nil
        | cons p t ih =>
          intro h
          refine .cons ?_ (ih fun j hj => h j (List.mem_cons_of_mem _ hj))
          rename_i x v _ _
          cases x with
          | d x => exact p
          | c j =>
            obtain ⟨b, z1, z2⟩ := p
            have hj := h j List.mem_cons_self
            exact ⟨b, by show w.mu[j]? = some b; rw [get j (by omega)]; exact z1, z2⟩
          | k _ => exact p
      exact key q3 q4
    | dct _ => exact h2
    | frz x => exact h2

theorem paired_some {w : Wd} : ∀ {as : List MV} {vs : List V}, RepMs K w as vs → ∀ (i : Nat) (x : MV), as[i]? = some x → ∃ v, vs[i]? = some v ∧ RepM K w x v := fun h i x e => get_rep h e

theorem start_env {w : Wd} {as : List MV} {vs : List V} {N : List Str} (r : RepMs K w as vs) : EnvSim K w (start N vs) (as.map some ++ List.replicate (N.length - as.length) none) := by
  have hl := Paired.length r
  refine ⟨by unfold start; simp [hl], fun i x e => ?_⟩
  by_cases hi : i < as.length
  · rw [List.getElem?_append_left (by simpa using hi), List.getElem?_map] at e
    cases q : as[i]? with
    | none => rw [q] at e; cases e
    | some y =>
      rw [q] at e
      cases e
      obtain ⟨v, h1, h2⟩ := get_rep r q
      refine ⟨v, ?_, h2⟩
      unfold start
      rw [List.getElem?_append_left (by simp; omega), List.getElem?_map, h1]
      rfl
  · rw [List.getElem?_append_right (by simpa using hi), List.getElem?_replicate] at e
    split at e <;> cases e
end

theorem gOf_fn {T : List Fd} {gd : List (Str × MV)} {x : Str} {k ar : Nat} {rf : List Nat} (h : gOf T gd x = some (.fn k ar rf)) : ∃ d, T[k]? = some d ∧ d.x = x ∧ ar = d.ps.length := by
  unfold gOf at h
  split at h
  · rename_i j hj
    split at h
    · rename_i d hd
      cases h
      obtain ⟨h1, h2, _⟩ := List.findIdx?_eq_some_iff_getElem.mp hj
      rw [List.getElem?_eq_getElem h1] at hd
      cases hd
      exact ⟨_, List.getElem?_eq_getElem h1, by simpa using h2, rfl⟩
    · cases h
  · cases q : gd.lookup x with
    | none => rw [q] at h; cases h
    | some v => rw [q] at h; cases h
theorem gOf_dat {T : List Fd} {gd : List (Str × MV)} {x : Str} {v : MV} (h : gOf T gd x = some (.dat v)) : gd.lookup x = some v := by
  unfold gOf at h
  split at h
  · split at h
    · cases h
    · cases h
  · cases q : gd.lookup x with
    | none => rw [q] at h; cases h
    | some v => rw [q] at h; cases h; rfl

/-- every def answers as its evaluator does -/
theorem prog_ok {P : Program} {w : World} {K : PySem.W.Frag} {mg : Str → Option Value} {base : Heap} {T : List Fd} {gd : List (Str × MV)} {m : Nat} (O : ProgOk K mg T gd) :
    ∀ (n k : Nat) (d : Fd), T[k]? = some d → ∀ f fd, mg d.x = some (.ref f) → Fun K d.x d.x d.st f fd → Binds K fd d.ps [] → FnOk P w K mg base CX0 n f fd d.ps (spF K d.ps.length (sem T gd m n k)) := by
  intro n
  induction n with
  | zero =>
    intro k d hd f fd hm F hb
    refine ⟨fun vs H Q E h => h.1, fun A outer s H args us vs Q E hr e0 hbt hv h => ?_⟩
    obtain ⟨_, w, hp, as, r, hp', S, ra, e, _⟩ := h
    cases e
  | succ n ih =>
    intro k d hd f fd hm F hb
    refine F.ok (O.sco d (List.mem_of_getElem? hd)) (fun vs H Q E h => h.1) (fun cdv A outer s H vs Q E hr h => ?_)
    obtain ⟨hl, w1, hp, as, r, hp', S, ra, e, q⟩ := h
    have e : (match T[k]? with
      | some d => if as.length = d.ps.length then match bodyOf T gd m (sem T gd m n) d with
          | some f => runBody f d.N.length as hp
          | none => none
        else none
      | none => none) = some (r, hp') := e
    rw [hd] at e
    simp only at e
    split at e
    · rename_i hal
      split at e
      · rename_i fb hfb
        obtain ⟨fs, e1, rfl⟩ := Option.map_eq_some_iff.mp hfb
        have C : CtOk { N := d.N, G := gOf T gd, mks := d.mks, fuel := m, φ := sem T gd m n } (defScope d.st) (cxOf CX0 P w K mg base d.N d.x (defScope d.st) f cdv A outer s H E).nox := {
          N := rfl
          nd := (O.sco d (List.mem_of_getElem? hd)).nd
          kind := (O.sco d (List.mem_of_getElem? hd)).kind
          sc := rfl
          calm := rfl
          room := by
            have := hr.un
            show (A.deeper _).units + 100 < cLine
            omega
          dat := fun x v hx => O.dat x v (gOf_dat hx)
          fn := fun x k' ar rf hx => by
            obtain ⟨d', h1, rfl, rfl⟩ := gOf_fn hx
            obtain ⟨f', fd', g1, g2, g3⟩ := O.fns k' d' h1
            exact ⟨n, f', fd', d'.ps, g1, g2.kp, g3, ih k' d' h1 f' fd' g1 g2 g3, hr⟩
          blt := fun x hx _ => O.blt x hx }
        have W : WsOk { N := d.N, G := gOf T gd, mks := d.mks, fuel := m, φ := sem T gd m n } (defScope d.st) (cxOf CX0 P w K mg base d.N d.x (defScope d.st) f cdv A outer s H E).nox :=
          ⟨fun x hx => ⟨isLoc_ok hx, .inl rfl⟩⟩
        refine ⟨_, pss_allM (Paired.mapP (mapO_ok e1) fun st g z => goodS (fun {X} hx => by rw [hx]; exact PassesOwn.never) 40 _ _ st g z _ C W rfl), ?_⟩
        unfold runBody at e
        split at e
        · rename_i env' hp2 e2
          cases e
          refine ⟨w1, _, hp, .nx, env', hp2, S, start_env ra, e2, fun w2 H2 σ2 P2 S2 E2 => ?_⟩
          obtain ⟨w3, P3, S3, _⟩ := S.cut P2 S2
          exact q w3 H2 .non P3 S3 .non
        · rename_i x env' hp2 e2
          cases e
          refine ⟨w1, _, hp, .rt (.d x), env', hp2, S, start_env ra, e2, fun w2 H2 v P2 S2 R2 => ?_⟩
          obtain ⟨w3, P3, S3, hF⟩ := S.cut P2 S2
          refine q w3 H2 v P3 S3 ?_
          show Dp K w3.F v x
          rw [hF]
          exact R2
        · rename_i j env' hp2 e2
          cases e
          exact ⟨w1, _, hp, .rt (.c j), env', _, S, start_env ra, e2, fun w2 H2 v P2 S2 R2 => q w2 H2 v P2 S2 R2⟩
        · cases e
      · cases e
    · cases e

/-- the law's promise from its evaluator's answer -/
theorem law_sp {K : PySem.W.Frag} {T : List Fd} {gd : List (Str × MV)} {m n k : Nat} {ns : List Int} {hp : Mh} (h : sem T gd m n k [.d (.list (ns.map .int))] [] = some (.d (.bool true), hp)) {H : Hp} {a : Addr} (hS : SqL K H a (ns.map V.int)) :
    spF K 1 (sem T gd m n k) [V.ref a] H (fun v _ => v = V.bl true) fun _ _ _ => False := by
  have D : ∀ ns : List Int, DpAll K H (ns.map V.int) (ns.map PyData.int) := by
    intro ns
    induction ns with
    | nil => exact .nil
    | cons n r ih => exact .cons (.int n) ih
  refine ⟨rfl, ⟨H, []⟩, [], [.d (.list (ns.map .int))], _, hp, ⟨Same.refl _, rfl, List.nodup_nil, (fun a ha => nomatch ha), (fun n c q => nomatch (show (none : Option Cell) = some c from q))⟩, .cons (.lst hS (D ns)) .nil, h, fun w' H' v _ _ r => ?_⟩
  cases r
  rfl
end L2.MP
/-! MiniPy N: transport: an evaluator's answer stays under other cells ahead, under values put for marks, under further names. -/
namespace L2.MP
open PySem PySem.Spec PyProof.Rows

structure Tr where
  pre : Mh
  τ : List (PyData × PyData) → MV
def Tr.v (t : Tr) : MV → MV
  | .d x => .d x
  | .c n => .c (t.pre.length + n)
  | .k x => t.τ x
def Tr.c (t : Tr) : Cell → Cell
  | .lst xs => .lst (xs.map t.v)
  | .dct x => .dct x
  | .frz x => .frz x
def Tr.h (t : Tr) (hp : Mh) : Mh := t.pre ++ hp.map t.c
def Tr.r (t : Tr) : R → R
  | .v x => .v (t.v x)
  | .l xs => .l (xs.map t.v)
def Tr.s (t : Tr) : Src → Src
  | .seq x n => .seq (t.v x) n
  | .rng lo n => .rng lo n
def Tr.o (t : Tr) : Out → Out
  | .nx => .nx
  | .rt x => .rt (t.v x)
  | .bk => .bk
  | .ct => .ct
def Ov (t : Tr) (env env' : Me) : Prop := env'.length = env.length ∧ ∀ (i : Nat) (x : MV), env[i]? = some (some x) → env'[i]? = some (some (t.v x))

section
variable {t : Tr}
theorem Tr.h_get {hp : Mh} {n : Nat} : (t.h hp)[t.pre.length + n]? = (hp[n]?).map t.c := by
  unfold Tr.h
  rw [List.getElem?_append_right (by omega), Nat.add_sub_cancel_left, List.getElem?_map]
theorem Tr.h_length {hp : Mh} : (t.h hp).length = t.pre.length + hp.length := by simp [Tr.h]
theorem Tr.h_set {hp : Mh} {n : Nat} {c : Cell} : (t.h hp).set (t.pre.length + n) (t.c c) = t.h (hp.set n c) := by
  unfold Tr.h
  rw [List.set_append_right _ _ (by omega), Nat.add_sub_cancel_left, List.map_set]
theorem Tr.h_snoc {hp : Mh} {c : Cell} : t.h hp ++ [t.c c] = t.h (hp ++ [c]) := by simp [Tr.h]
theorem Tr.h_take {hp : Mh} {n : Nat} : (t.h hp).take (t.pre.length + n) = t.h (hp.take n) := by
  unfold Tr.h
  rw [List.take_append, List.map_take]
  simp [List.take_of_length_le]
theorem Tr.map_d (ds : List PyData) : (ds.map MV.d).map t.v = ds.map MV.d := by rw [List.map_map]; rfl

theorem fr_lstOf {x : MV} {hp : Mh} {xs : List MV} (e : lstOf x hp = some xs) : lstOf (t.v x) (t.h hp) = some (xs.map t.v) := by
  cases x with
  | d x =>
    cases x with
    | list ds => cases e; show some _ = _; rw [Tr.map_d]
    | _ => cases e
  | c n =>
    show (match (t.h hp)[t.pre.length + n]? with | some (.lst xs) => some xs | some (.frz (.list ds)) => some (ds.map MV.d) | _ => none) = _
    rw [Tr.h_get]
    have e : (match hp[n]? with | some (.lst xs) => some xs | some (.frz (.list ds)) => some (ds.map MV.d) | _ => none) = some xs := e
    split at e
    · rename_i q; cases e; rw [q]; rfl
    · rename_i q; cases e; rw [q]; show some _ = _; rw [Tr.map_d]
    · cases e
  | k _ => cases e
theorem fr_seqOf {x : MV} {hp : Mh} {xs : List MV} (e : seqOf x hp = some xs) : seqOf (t.v x) (t.h hp) = some (xs.map t.v) := by
  cases x with
  | d x =>
    cases x with
    | tuple ds => cases e; show some _ = _; rw [Tr.map_d]
    | list ds => exact fr_lstOf (x := .d (.list ds)) (hp := hp) e
    | _ => cases e
  | c n =>
    have := fr_lstOf (t := t) (x := .c n) (hp := hp) (xs := xs) e
    exact this
  | k _ => cases e
theorem fr_datas : ∀ {xs : List MV} {ds : List PyData}, datas xs = some ds → xs = ds.map MV.d
  | [], _, e => by cases e; rfl
  | .d x :: r, _, e => by
    unfold datas at e
    split at e
    · rename_i ys q; cases e; rw [fr_datas q]; rfl
    · cases e
  | .c _ :: _, _, e => by cases e
  | .k _ :: _, _, e => by cases e
theorem datas_d : ∀ (ds : List PyData), datas (ds.map MV.d) = some ds
  | [] => rfl
  | d :: r => by
    show (match datas (r.map MV.d) with | some xs => some (d :: xs) | none => none) = _
    rw [datas_d r]
theorem fr_datas' {xs : List MV} {ds : List PyData} (e : datas xs = some ds) : datas (xs.map t.v) = some ds := by
  rw [fr_datas e, Tr.map_d, datas_d]
theorem fr_dataOf {x : MV} {hp : Mh} {d : PyData} (e : dataOf x hp = some d) : dataOf (t.v x) (t.h hp) = some d := by
  cases x with
  | d x => exact e
  | c n =>
    show (match (t.h hp)[t.pre.length + n]? with | some (.lst xs) => (match datas xs with | some ds => some (PyData.list ds) | none => none) | some (.frz x) => some x | _ => none) = _
    rw [Tr.h_get]
    have e : (match hp[n]? with | some (.lst xs) => (match datas xs with | some ds => some (PyData.list ds) | none => none) | some (.frz x) => some x | _ => none) = some d := e
    split at e
    · rename_i q
      split at e
      · rename_i q2; cases e; rw [q]; show (match datas (List.map t.v _) with | some ds => some (PyData.list ds) | none => none) = _; rw [fr_datas' q2]
      · cases e
    · rename_i q; cases e; rw [q]; rfl
    · cases e
  | k _ => cases e
theorem fr_fz {x : MV} {hp hp' : Mh} {d : PyData} (e : fzM x hp = some (d, hp')) : fzM (t.v x) (t.h hp) = some (d, t.h hp') := by
  cases x with
  | d x => cases e; rfl
  | c n =>
    show (match (t.h hp)[t.pre.length + n]? with | some (.lst xs) => (match datas xs with | some ds => some (PyData.list ds, (t.h hp).set (t.pre.length + n) (.frz (.list ds))) | none => none) | some (.frz x) => some (x, t.h hp) | _ => none) = _
    rw [Tr.h_get]
    have e : (match hp[n]? with | some (.lst xs) => (match datas xs with | some ds => some (PyData.list ds, hp.set n (.frz (.list ds))) | none => none) | some (.frz x) => some (x, hp) | _ => none) = some (d, hp') := e
    split at e
    · rename_i q
      split at e
      · rename_i ds q2
        cases e
        rw [q]
        show (match datas (List.map t.v _) with | some ds => some (PyData.list ds, (t.h hp).set (t.pre.length + n) (.frz (.list ds))) | none => none) = _
        rw [fr_datas' q2]
        show some (_, (t.h hp).set _ (t.c (.frz (.list ds)))) = _
        rw [Tr.h_set]
      · cases e
    · rename_i q; cases e; rw [q]; rfl
    · cases e
  | k _ => cases e

/-! ### operations -/
def F1 (t : Tr) (op : MV → Mh → Option R) : Prop := ∀ a hp r, op a hp = some r → op (t.v a) (t.h hp) = some (t.r r)
def F2 (t : Tr) (op : MV → MV → Mh → Option R) : Prop := ∀ a b hp r, op a b hp = some r → op (t.v a) (t.v b) (t.h hp) = some (t.r r)
def FL (t : Tr) (op : List MV → Mh → Option R) : Prop := ∀ as hp r, op as hp = some r → op (as.map t.v) (t.h hp) = some (t.r r)
def FP (t : Tr) (op : MV → MV → Mh → Option Bool) : Prop := ∀ a b hp r, op a b hp = some r → op (t.v a) (t.v b) (t.h hp) = some r
theorem fr_iv {i : Int} {r : R} (e : iv i = some r) : iv i = some (t.r r) := by cases e; rfl
theorem fr_bv {i : Bool} {r : R} (e : bv i = some r) : bv i = some (t.r r) := by cases e; rfl
theorem fr_dv {i : PyData} {r : R} (e : dv i = some r) : dv i = some (t.r r) := by cases e; rfl
theorem map_rep {α β : Type} {f : α → β} {k : Int} {xs : List α} : (rep k xs).map f = rep k (xs.map f) := by simp [rep, List.map_flatten]
theorem fr_addL : F2 t addL := fun a b hp r e => by
  unfold addL at e
  split at e
  · rename_i xs ys q1 q2
    split at e
    · rename_i hz
      cases e
      unfold addL
      rw [fr_lstOf q1, fr_lstOf q2]
      show (if _ then some (R.l (xs.map t.v ++ ys.map t.v)) else none) = some (.l ((xs ++ ys).map t.v))
      rw [List.length_map, List.length_map, if_pos hz, List.map_append]
    · cases e
  · cases e
theorem addL_k (b : MV) (x) (hp : Mh) : addL b (.k x) hp = none := by
  unfold addL
  split
  · rename_i q; cases q
  · rfl
theorem addL_k' (b : MV) (x) (hp : Mh) : addL (.k x) b hp = none := rfl
theorem fr_add : F2 t opAdd := fun a b hp r e => by
  cases a with
  | k x => cases b with
    | d y => cases y <;> cases e
    | c n => cases e
    | k y => cases e
  | c n => exact fr_addL (t := t) (.c n) b hp r e
  | d x =>
    cases b with
    | c n =>
      have : ∀ (n : Nat) (hp : Mh), opAdd (.d x) (.c n) hp = addL (.d x) (.c n) hp := by cases x <;> intros <;> rfl
      show opAdd (.d x) (.c _) (t.h hp) = _
      rw [this] at e ⊢
      exact fr_addL (t := t) _ _ hp r e
    | k y =>
      have : opAdd (.d x) (.k y) hp = addL (.d x) (.k y) hp := by cases x <;> rfl
      rw [this, addL_k] at e
      cases e
    | d y =>
      show opAdd (.d x) (.d y) (t.h hp) = _
      cases x <;> cases y <;> first
        | (unfold opAdd at e ⊢; simp only at e ⊢; exact fr_addL (t := t) (.d _) (.d _) hp r e)
        | exact fr_iv e
        | (unfold opAdd at e ⊢
           simp only at e ⊢
           split at e
           · rename_i hz
             rw [if_pos hz]
             exact fr_dv e
           · cases e)
theorem fr_sub : F2 t opSub := fun a b hp r e => by
  unfold opSub at e
  split at e
  · exact fr_iv e
  · cases e
theorem fr_div : F2 t opDiv := fun a b hp r e => by
  unfold opDiv at e
  split at e
  · split at e
    · rename_i q
      show (if _ then _ else _) = _
      rw [if_pos q]
      exact fr_iv e
    · cases e
  · cases e
theorem fr_mod : F2 t opMod := fun a b hp r e => by
  unfold opMod at e
  split at e
  · split at e
    · cases e
    · rename_i q
      show (if _ then _ else _) = _
      rw [if_neg q]
      exact fr_iv e
  · cases e
theorem fr_pow : F2 t opPow := fun a b hp r e => by
  unfold opPow at e
  split at e
  · split at e
    · rename_i q
      show (if _ then _ else _) = _
      rw [if_pos q]
      exact fr_iv e
    · cases e
  · cases e
theorem fr_shl : F2 t opShl := fun a b hp r e => by
  unfold opShl at e
  split at e
  · split at e
    · rename_i q
      show (if _ then _ else _) = _
      rw [if_pos q]
      exact fr_iv e
    · cases e
  · cases e
theorem fr_mulL {a : MV} {k : Int} {hp : Mh} {r : R} (e : mulL a k hp = some r) : mulL (t.v a) k (t.h hp) = some (t.r r) := by
  unfold mulL at e
  split at e
  · rename_i xs q
    split at e
    · rename_i hz
      cases e
      unfold mulL
      rw [fr_lstOf q]
      show (if _ ∧ _ ∧ (xs.map t.v).length * _ ≤ _ then some (R.l (rep k (xs.map t.v))) else none) = some (.l ((rep k xs).map t.v))
      rw [List.length_map, if_pos hz, map_rep]
    · cases e
  · cases e
theorem fr_mul : F2 t opMul := fun a b hp r e => by
  cases b with
  | c n => cases a with
    | d x => cases x <;> cases e
    | _ => cases e
  | k y => cases a with
    | d x => cases x <;> cases e
    | _ => cases e
  | d y =>
    cases y with
    | int k =>
      cases a with
      | k x => cases e
      | c n => exact fr_mulL (t := t) (a := .c n) e
      | d x =>
        show opMul (.d x) (.d (.int k)) (t.h hp) = _
        cases x <;> first
          | (unfold opMul at e ⊢; simp only at e ⊢; exact fr_mulL (t := t) (a := .d _) (hp := hp) e)
          | (unfold opMul at e ⊢
             simp only at e ⊢
             split at e
             · rename_i hz
               rw [if_pos hz]
               exact fr_iv e
             · cases e)
          | (unfold opMul at e ⊢
             simp only at e ⊢
             split at e
             · rename_i hz
               rw [if_pos hz]
               exact fr_dv e
             · cases e)
    | _ => cases a with
      | d x => cases x <;> cases e
      | _ => cases e
theorem fr_neg : F1 t negM := fun a hp r e => by
  unfold negM at e
  split at e
  · exact fr_iv e
  · cases e
theorem fr_eq : FP t eqM := fun a b hp r e => by
  unfold eqM at e
  split at e
  · rename_i q1 q2
    unfold eqM
    rw [fr_dataOf q1, fr_dataOf q2]
    exact e
  · cases e
theorem fr_lt : FP t ltM := fun a b hp r e => by
  unfold ltM at e
  split at e
  · rename_i q1 q2
    unfold ltM
    rw [fr_dataOf q1, fr_dataOf q2]
    exact e
  · cases e
theorem fr_in : FP t inM := fun a b hp r e => by
  unfold inM at e ⊢
  cases q1 : dataOf a hp with
  | none => rw [q1] at e; cases e
  | some x =>
    cases q2 : dataOf b hp with
    | none => rw [q1, q2] at e; simp at e
    | some y =>
      rw [fr_dataOf q1, fr_dataOf q2]
      rw [q1, q2] at e
      exact e
theorem fr_cmp (op : CmpOp) : FP t (cmpM op) := fun a b hp r e => by
  cases op with
  | Eq => exact fr_eq _ _ _ _ e
  | NotEq =>
    obtain ⟨k, e1, e2⟩ := Option.map_eq_some_iff.mp (show (eqM a b hp).map (!·) = some r from e)
    show (eqM _ _ _).map (!·) = _
    rw [fr_eq _ _ _ _ e1, ← e2]
    rfl
  | Lt => exact fr_lt _ _ _ _ e
  | In => exact fr_in _ _ _ _ e
  | NotIn =>
    obtain ⟨k, e1, e2⟩ := Option.map_eq_some_iff.mp (show (inM a b hp).map (!·) = some r from e)
    show (inM _ _ _).map (!·) = _
    rw [fr_in _ _ _ _ e1, ← e2]
    rfl
  | Is => cases a <;> cases b <;> first | exact e | cases e | (rename_i q; cases q <;> first | exact e | cases e)
  | IsNot => cases a <;> cases b <;> first | exact e | cases e | (rename_i q; cases q <;> first | exact e | cases e)
  | _ =>
    unfold cmpM at e ⊢
    simp only at e ⊢
    cases q1 : dataOf a hp with
    | none => rw [q1] at e; cases e
    | some x =>
      cases q2 : dataOf b hp with
      | none => rw [q1, q2] at e; simp at e
      | some y =>
        rw [fr_dataOf q1, fr_dataOf q2]
        rw [q1, q2] at e
        exact e
theorem fr_tru {a : MV} {hp : Mh} {r : Bool} (e : truM a hp = some r) : truM (t.v a) (t.h hp) = some r := by
  have key : ∀ {a : MV}, truL a hp = some r → truL (t.v a) (t.h hp) = some r := fun {a} e => by
    unfold truL at e ⊢
    split at e
    · rename_i xs q
      rw [fr_seqOf q]
      cases xs <;> exact e
    · cases e
  cases a with
  | k _ => cases e
  | c n => exact key (a := .c n) e
  | d x => cases x <;> first | exact e | exact key (a := .d _) e
theorem fr_atI {xs : List MV} {i : Int} {x : MV} (e : atI xs i = some x) : atI (xs.map t.v) i = some (t.v x) := by
  unfold atI at e ⊢
  obtain ⟨j, e1, e2⟩ := Option.bind_eq_some_iff.mp e
  rw [List.length_map, e1]
  show (xs.map t.v)[j]? = _
  rw [List.getElem?_map, e2]
  rfl
theorem fr_ixL {a : MV} {i : Int} {hp : Mh} {r : R} (e : ixL a i hp = some r) : ixL (t.v a) i (t.h hp) = some (t.r r) := by
  unfold ixL at e ⊢
  split at e
  · rename_i xs q
    rw [fr_seqOf q]
    split at e
    · rename_i x q2
      cases e
      show (match atI (xs.map t.v) i with | some x => some (R.v x) | none => none) = _
      rw [fr_atI q2]
      rfl
    · cases e
  · cases e
theorem fr_ix : F2 t ixM := fun a b hp r e => by
  cases b with
  | k _ => cases e
  | c _ => cases e
  | d y =>
    cases y with
    | int i =>
      cases a with
      | k _ => cases e
      | c n => exact fr_ixL (t := t) (a := .c n) e
      | d x =>
        show ixM (.d x) (.d (.int i)) (t.h hp) = _
        cases x <;> first
          | (unfold ixM at e ⊢; simp only at e ⊢; exact fr_ixL (t := t) (a := .d _) (hp := hp) e)
          | (unfold ixM at e ⊢
             simp only at e ⊢
             split at e
             · rename_i hz
               rw [if_pos hz]
               split at e
               · exact fr_dv e
               · cases e
             · cases e)
    | _ => cases e
theorem fr_slL {a : MV} {lo hi : Option Int} {hp : Mh} {r : R} (e : slL a lo hi hp = some r) : slL (t.v a) lo hi (t.h hp) = some (t.r r) := by
  unfold slL at e ⊢
  split at e
  · rename_i xs q
    cases e
    rw [fr_lstOf q]
    show some (R.l (cutM (xs.map t.v) lo hi)) = some (R.l ((cutM xs lo hi).map t.v))
    unfold cutM
    rw [List.length_map, List.map_take, List.map_drop]
  · cases e
theorem fr_sl {a : MV} {lo hi : Option Int} {hp : Mh} {r : R} (e : slM a lo hi hp = some r) : slM (t.v a) lo hi (t.h hp) = some (t.r r) := by
  cases a with
  | k _ => cases e
  | c n => exact fr_slL (t := t) (a := .c n) e
  | d x =>
    show slM (.d x) lo hi (t.h hp) = _
    cases x <;> first
      | (unfold slM at e ⊢; simp only at e ⊢; exact fr_slL (t := t) (a := .d _) (hp := hp) e)
      | (unfold slM at e ⊢
         simp only at e ⊢
         split at e
         · cases e
         · rename_i hz
           rw [if_neg hz]
           exact fr_dv e)
theorem fr_lenM : FL t lenM := fun as hp r e => by
  have key : ∀ {a : MV}, lenL a hp = some r → lenL (t.v a) (t.h hp) = some (t.r r) := fun {a} e => by
    unfold lenL at e ⊢
    split at e
    · rename_i xs q
      rw [fr_seqOf q]
      show iv ((xs.map t.v).length) = _
      rw [List.length_map]
      exact fr_iv e
    · cases e
  match as, e with
  | [a], e =>
    cases a with
    | k _ => cases e
    | c n => exact key (a := .c n) e
    | d x =>
      show lenM [.d x] (t.h hp) = _
      cases x <;> first
        | (unfold lenM at e ⊢; simp only at e ⊢; exact key (a := .d _) e)
        | (unfold lenM at e ⊢
           simp only at e ⊢
           split at e
           · rename_i hz
             rw [if_pos hz]
             exact fr_iv e
           · cases e)
  | [], e => cases e
  | _ :: _ :: _, e => simp [lenM] at e
theorem fr_list : FL t listM := fun as hp r e => by
  match as, e with
  | [a], e =>
    have e : (match seqOf a hp with | some xs => some (R.l xs) | none => none) = some r := e
    split at e
    · rename_i xs q
      cases e
      show (match seqOf (t.v a) (t.h hp) with | some xs => some (R.l xs) | none => none) = _
      rw [fr_seqOf q]
      rfl
    · cases e
  | [], e => cases e
  | _ :: _ :: _, e => cases e
theorem fr_tuple : FL t tupleM := fun as hp r e => by
  have key : ∀ {a : MV}, tupL a hp = some r → tupL (t.v a) (t.h hp) = some (t.r r) := fun {a} e => by
    unfold tupL at e ⊢
    split at e
    · rename_i xs q
      rw [fr_lstOf q]
      split at e
      · rename_i ds q2
        show (match datas (xs.map t.v) with | some ds => dv (.tuple ds) | none => none) = _
        rw [fr_datas' q2]
        exact fr_dv e
      · cases e
    · cases e
  match as, e with
  | [a], e =>
    cases a with
    | k _ => cases e
    | c n => exact key (a := .c n) e
    | d x =>
      show tupleM [.d x] (t.h hp) = _
      cases x <;> first
        | (unfold tupleM at e ⊢; simp only at e ⊢; exact key (a := .d _) e)
        | exact fr_dv e
  | [], e => cases e
  | _ :: _ :: _, e => simp [tupleM] at e
theorem fr_abs : FL t absM := fun as hp r e => by
  unfold absM at e
  split at e
  · exact fr_iv e
  · cases e
theorem fr_int : FL t intM := fun as hp r e => by
  unfold intM at e
  split at e
  · exact fr_iv e
  · exact fr_iv e
  · cases e
theorem fr_min2 : FL t min2M := fun as hp r e => by
  unfold min2M at e
  split at e
  · exact fr_iv e
  · cases e
theorem fr_max2 : FL t max2M := fun as hp r e => by
  unfold max2M at e
  split at e
  · exact fr_iv e
  · cases e
theorem fr_bools : ∀ {xs : List MV} {bs : List Bool}, bools xs = some bs → bools (xs.map t.v) = some bs
  | [], _, e => e
  | .d (.bool b) :: r, _, e => by
    have e : (match bools r with | some bs => some (b :: bs) | none => none) = some _ := e
    split at e
    · rename_i bs q
      cases e
      show (match bools (r.map t.v) with | some bs => some (b :: bs) | none => none) = _
      rw [fr_bools q]
    · cases e
  | .d .none :: _, _, e => by cases e
  | .d (.int _) :: _, _, e => by cases e
  | .d (.str _) :: _, _, e => by cases e
  | .d (.list _) :: _, _, e => by cases e
  | .d (.tuple _) :: _, _, e => by cases e
  | .d (.dict _) :: _, _, e => by cases e
  | .c _ :: _, _, e => by cases e
  | .k _ :: _, _, e => by cases e
theorem fr_all : FL t allM := fun as hp r e => by
  unfold allM at e
  split at e
  · split at e
    · rename_i q
      split at e
      · rename_i q2
        show allM [_] _ = _
        unfold allM
        simp only [fr_lstOf q, fr_bools q2]
        exact fr_bv e
      · cases e
    · cases e
  · cases e
theorem fr_any : FL t anyM := fun as hp r e => by
  unfold anyM at e
  split at e
  · split at e
    · rename_i q
      split at e
      · rename_i q2
        show anyM [_] _ = _
        unfold anyM
        simp only [fr_lstOf q, fr_bools q2]
        exact fr_bv e
      · cases e
    · cases e
  · cases e
theorem fr_blt (k : BltK) : FL t (bltM k) := by
  cases k
  · exact fr_lenM
  · exact fr_abs
  · exact fr_int
  · exact fr_min2
  · exact fr_max2
  · exact fr_list
  · exact fr_tuple
  · exact fr_all
  · exact fr_any
theorem fr_binM {op : Operator} {o : MV → MV → Mh → Option R} (h : binM op = some o) : F2 t o := by
  cases op <;> first | (cases h; first | exact fr_add | exact fr_sub | exact fr_mul | exact fr_div | exact fr_mod | exact fr_pow | exact fr_shl) | cases h
theorem fr_augM {op : Operator} {o : MV → MV → Mh → Option R} (h : augM op = some o) : F2 t o := by
  cases op <;> first | (cases h; done) | skip
  · cases h
    intro a b hp r e
    simp only at e ⊢
    split at e
    · exact fr_iv e
    · cases e
  · cases h
    exact fr_sub
theorem fr_ty {a : MV} {hp : Mh} {r : String} (e : tyM a hp = some r) : tyM (t.v a) (t.h hp) = some r := by
  have key : ∀ {a : MV}, tyL a hp = some r → tyL (t.v a) (t.h hp) = some r := fun {a} e => by
    unfold tyL at e ⊢
    split at e
    · rename_i xs q
      rw [fr_lstOf q]
      exact e
    · cases e
  cases a with
  | k _ => cases e
  | c n => exact key (a := .c n) e
  | d x =>
    show tyM (.d x) (t.h hp) = _
    cases x <;> first | exact e | (unfold tyM at e ⊢; simp only at e ⊢; exact key (a := .d _) e)

theorem map_erase {α β : Type} {f : α → β} : ∀ {xs : List α} {k : Nat}, (xs.map f).eraseIdx k = (xs.eraseIdx k).map f
  | [], _ => rfl
  | _ :: _, 0 => rfl
  | _ :: r, k + 1 => congrArg (_ :: ·) (map_erase (xs := r))
/-! ### methods -/
def FM (t : Tr) (op : Mt) : Prop := ∀ a as hp r hp', op a as hp = some (r, hp') → op (t.v a) (as.map t.v) (t.h hp) = some (t.v r, t.h hp')
theorem fr_append : FM t appendM := fun a as hp r hp' e => by
  unfold appendM at e
  split at e
  · split at e
    · rename_i xs q
      split at e
      · rename_i hz
        cases e
        show appendM (.c _) [.d _] _ = _
        unfold appendM
        simp only [Tr.h_get, q, Option.map_some, Tr.c, List.length_map, if_pos hz]
        rw [← Tr.h_set (t := t)]
        simp [Tr.c, Tr.v]
      · cases e
    · cases e
  · cases e
theorem fr_pop : FM t popM := fun a as hp r hp' e => by
  unfold popM at e
  split at e
  · split at e
    · rename_i xs q
      split at e
      · rename_i y hy
        cases e
        show popM (.c _) [] _ = _
        unfold popM
        simp only [Tr.h_get, q, Option.map_some, Tr.c, List.length_map, List.getElem?_map, hy]
        rw [← Tr.h_set (t := t)]
        simp [Tr.c]
      · cases e
    · cases e
  · cases e
theorem fr_popAt : FM t popAtM := fun a as hp r hp' e => by
  unfold popAtM at e
  split at e
  · split at e
    · rename_i xs q
      split at e
      · rename_i hz
        split at e
        · rename_i k hk
          split at e
          · rename_i y hy
            cases e
            show popAtM (.c _) [.d _] _ = _
            unfold popAtM
            simp only [Tr.h_get, q, Option.map_some, Tr.c, List.length_map, if_pos hz, hk, List.getElem?_map, hy]
            rw [← Tr.h_set (t := t)]
            simp [Tr.c, map_erase]
          · cases e
        · cases e
      · cases e
    · cases e
  · cases e
theorem fr_remove : FM t removeM := fun a as hp r hp' e => by
  unfold removeM at e
  split at e
  · split at e
    · rename_i xs q
      split at e
      · rename_i ds hd
        split at e
        · rename_i k hk
          split at e
          · rename_i hz
            cases e
            show removeM (.c _) [.d _] _ = _
            unfold removeM
            simp only [Tr.h_get, q, Option.map_some, Tr.c, fr_datas' hd, hk, if_pos hz]
            rw [← Tr.h_set (t := t)]
            simp [Tr.c, Tr.v, map_erase]
          · cases e
        · cases e
      · cases e
    · cases e
  · cases e
theorem fr_mt (k : MtK) : FM t (mtM' k) := by
  cases k
  · exact fr_append
  · exact fr_pop
  · exact fr_popAt
  · exact fr_remove
theorem fr_setM {o i x : MV} {hp hp' : Mh} (e : setM o i x hp = some hp') : setM (t.v o) (t.v i) (t.v x) (t.h hp) = some (t.h hp') := by
  unfold setM at e
  split at e
  · rename_i n k
    split at e
    · rename_i xs q
      split at e
      · rename_i j hj
        show setM (.c _) (.d _) _ _ = _
        unfold setM
        simp only [Tr.h_get, q, Option.map_some, Tr.c, List.length_map, hj]
        split at e
        · rename_i y
          cases e
          rw [← Tr.h_set (t := t)]
          simp [Tr.c, Tr.v, List.map_set]
        · rename_i m
          split at e
          · rename_i hm
            cases e
            rw [← Tr.h_set (t := t)]
            have hm' : t.pre.length + m < t.pre.length + n := by omega
            simp [Tr.c, Tr.v, List.map_set, hm]
          · cases e
        · cases e
      · cases e
    · cases e
  · cases e
end
end L2.MP
/-! MiniPy O: transport of all that the compile functions print. -/
namespace L2.MP
open PySem PySem.Spec PyProof.Rows

def Fr (t : Tr) {α : Type} (m : α → α) (f : Me → Mh → Option (α × Mh)) : Prop := ∀ env env' hp x hp', Ov t env env' → f env hp = some (x, hp') → f env' (t.h hp) = some (m x, t.h hp')
abbrev FE (t : Tr) (f : Ev) : Prop := Fr t t.v f
abbrev FAs (t : Tr) (f : Evs) : Prop := Fr t (List.map t.v) f
abbrev FT (t : Tr) (f : Et) : Prop := Fr t id f
abbrev FR (t : Tr) (f : Er) : Prop := Fr t t.r f
abbrev FI (t : Tr) (f : Ei) : Prop := Fr t t.s f
def FG (t : Tr) (g : Eg) : Prop := ∀ x env env' hp e1 hp1, Ov t env env' → g x env hp = some (e1, hp1) → ∃ e1', g (t.v x) env' (t.h hp) = some (e1', t.h hp1) ∧ Ov t e1 e1'
def FS (t : Tr) (f : ES) : Prop := ∀ env env' hp o e1 hp1, Ov t env env' → f env hp = some (o, e1, hp1) → ∃ e1', f env' (t.h hp) = some (t.o o, e1', t.h hp1) ∧ Ov t e1 e1'
def FC (t : Tr) (φ : List MV → Mh → Option (MV × Mh)) : Prop := ∀ as hp r hp', φ as hp = some (r, hp') → φ (as.map t.v) (t.h hp) = some (t.v r, t.h hp')

section
variable {t : Tr} {f g h : Ev} {fs : List Ev}
theorem Ov.set {env env' : Me} (O : Ov t env env') (i : Nat) (x : MV) : Ov t (env.set i (some x)) (env'.set i (some (t.v x))) := by
  refine ⟨by simp [O.1], fun j y e => ?_⟩
  by_cases hj : i = j
  · subst hj
    have hl : i < env.length := by
      by_cases hh : i < env.length
      · exact hh
      · rw [List.set_eq_of_length_le (by omega)] at e
        exact (List.getElem?_eq_some_iff.mp e).1
    rw [List.getElem?_set_self hl] at e
    cases e
    rw [List.getElem?_set_self (by rw [O.1]; exact hl)]
  · rw [List.getElem?_set_ne hj] at e ⊢
    exact O.2 j y e
theorem Ov.wipe1 {env env' : Me} (O : Ov t env env') (i : Nat) : Ov t (env.set i none) (env'.set i none) := by
  refine ⟨by simp [O.1], fun j y e => ?_⟩
  by_cases hj : i = j
  · subst hj
    by_cases hh : i < env.length
    · rw [List.getElem?_set_self hh] at e
      cases e
    · rw [List.set_eq_of_length_le (by omega)] at e
      exact absurd (List.getElem?_eq_some_iff.mp e).1 hh
  · rw [List.getElem?_set_ne hj] at e ⊢
    exact O.2 j y e
theorem Ov.wipe {env env' : Me} (O : Ov t env env') : ∀ vs, Ov t (wipeE env vs) (wipeE env' vs)
  | [] => O
  | v :: vs => Ov.wipe1 (Ov.wipe O vs) v

theorem fe_var {i : Nat} : FE t (evVar i) := fun env env' hp x hp' O e => by
  unfold evVar at e ⊢
  split at e
  · rename_i y q
    have z := O.2 i y q
    cases e
    rw [z]
  · cases e
theorem fe_k {d : PyData} : FE t (evK (.d d)) := fun env env' hp x hp' O e => by cases e; rfl
theorem fa_all : ∀ {fs : List Ev}, (∀ f ∈ fs, FE t f) → FAs t (evAll fs)
  | [], _ => fun env env' hp x hp' O e => by cases e; rfl
  | f :: r, H => fun env env' hp x hp' O e => by
    obtain ⟨p, e1, e⟩ := Option.bind_eq_some_iff.mp e
    obtain ⟨q, e2, e⟩ := Option.bind_eq_some_iff.mp e
    cases e
    show ((f env' (t.h hp)).bind fun p => (evAll r env' p.2).bind fun q => some (p.1 :: q.1, q.2)) = _
    rw [H f List.mem_cons_self _ _ _ _ _ O e1]
    show ((evAll r env' (t.h p.2)).bind fun q => some (t.v p.1 :: q.1, q.2)) = _
    rw [fa_all (fun g hg => H g (List.mem_cons_of_mem _ hg)) _ _ _ _ _ O e2]
    rfl
theorem fr_bind {α β : Type} {m : α → α} {m' : β → β} {f : Me → Mh → Option (α × Mh)} {k : Me → α × Mh → Option (β × Mh)} (H : Fr t m f) (Hk : ∀ env env' x hp y hp', Ov t env env' → k env (x, hp) = some (y, hp') → k env' (m x, t.h hp) = some (m' y, t.h hp')) : Fr t m' (fun env hp => (f env hp).bind (k env)) := fun env env' hp x hp' O e => by
  obtain ⟨p, e1, e⟩ := Option.bind_eq_some_iff.mp e
  show (f env' (t.h hp)).bind (k env') = _
  rw [H _ _ _ _ _ O e1]
  exact Hk _ _ _ _ _ _ O e
theorem fe_fz (H : FE t f) : FE t (evFz f) := fr_bind H fun env env' x hp y hp' O e => by
  obtain ⟨q, e1, e⟩ := Option.bind_eq_some_iff.mp e
  cases e
  show ((fzM (t.v x) (t.h hp)).bind _) = _
  rw [fr_fz e1]
  rfl
theorem fe_st {f : Er} (H : FR t f) : FE t (evSt f) := fr_bind H fun env env' x hp y hp' O e => by
  cases x with
  | v x => cases e; rfl
  | l xs =>
    obtain ⟨ds, e1, e⟩ := Option.bind_eq_some_iff.mp e
    cases e
    show ((datas (xs.map t.v)).bind _) = _
    rw [fr_datas' e1]
    rfl
theorem fe_mk {f : Er} (H : FR t f) : FE t (evMk f) := fr_bind H fun env env' x hp y hp' O e => by
  cases x with
  | v x => cases e
  | l xs =>
    cases e
    show some (MV.c (t.h hp).length, t.h hp ++ [t.c (.lst xs)]) = _
    rw [Tr.h_snoc, Tr.h_length]
    rfl
theorem fr_bin {op : MV → MV → Mh → Option R} (Ho : F2 t op) (H : FE t f) (Hg : FE t g) : FR t (evBin op f g) := fr_bind H fun env env' x hp y hp' O e => by
  obtain ⟨q, e1, e⟩ := Option.bind_eq_some_iff.mp e
  obtain ⟨r, e2, e⟩ := Option.bind_eq_some_iff.mp e
  cases e
  show ((g env' (t.h hp)).bind _) = _
  rw [Hg _ _ _ _ _ O e1]
  show ((op (t.v x) (t.v q.1) (t.h q.2)).bind _) = _
  rw [Ho _ _ _ _ e2]
  rfl
theorem fr_un {op : MV → Mh → Option R} (Ho : F1 t op) (H : FE t f) : FR t (evUn op f) := fr_bind H fun env env' x hp y hp' O e => by
  obtain ⟨r, e2, e⟩ := Option.bind_eq_some_iff.mp e
  cases e
  show ((op (t.v x) (t.h hp)).bind _) = _
  rw [Ho _ _ _ e2]
  rfl
theorem fr_bltE {op : List MV → Mh → Option R} (Ho : FL t op) (H : ∀ f ∈ fs, FE t f) : FR t (evBlt op fs) := fr_bind (fa_all H) fun env env' x hp y hp' O e => by
  obtain ⟨r, e2, e⟩ := Option.bind_eq_some_iff.mp e
  cases e
  show ((op (x.map t.v) (t.h hp)).bind _) = _
  rw [Ho _ _ _ e2]
  rfl
theorem ft_cmp {op : MV → MV → Mh → Option Bool} (Ho : FP t op) (H : FE t f) (Hg : FE t g) : FT t (evCmp op f g) := fr_bind H fun env env' x hp y hp' O e => by
  obtain ⟨q, e1, e⟩ := Option.bind_eq_some_iff.mp e
  obtain ⟨r, e2, e⟩ := Option.bind_eq_some_iff.mp e
  cases e
  show ((g env' (t.h hp)).bind _) = _
  rw [Hg _ _ _ _ _ O e1]
  show ((op (t.v x) (t.v q.1) (t.h q.2)).bind _) = _
  rw [Ho _ _ _ _ e2]
  rfl
theorem ft_cmp2 {op op' : MV → MV → Mh → Option Bool} (Ho : FP t op) (Ho' : FP t op') (H : FE t f) (Hg : FE t g) (Hh : FE t h) : FT t (evCmp2 op op' f g h) := fr_bind H fun env env' x hp y hp' O e => by
  obtain ⟨q, e1, e⟩ := Option.bind_eq_some_iff.mp e
  obtain ⟨r, e2, e⟩ := Option.bind_eq_some_iff.mp e
  show ((g env' (t.h hp)).bind _) = _
  rw [Hg _ _ _ _ _ O e1]
  show ((op (t.v x) (t.v q.1) (t.h q.2)).bind _) = _
  rw [Ho _ _ _ _ e2]
  cases r with
  | false => cases e; rfl
  | true =>
    obtain ⟨z, e3, e⟩ := Option.bind_eq_some_iff.mp (show ((h env q.2).bind fun r => (op' q.1 r.1 r.2).bind fun c => some (c, r.2)) = some (y, hp') from e)
    obtain ⟨w, e4, e⟩ := Option.bind_eq_some_iff.mp e
    cases e
    show ((h env' (t.h q.2)).bind fun r => (op' (t.v q.1) r.1 r.2).bind fun c => some (c, r.2)) = _
    rw [Hh _ _ _ _ _ O e3]
    show ((op' (t.v q.1) (t.v z.1) (t.h z.2)).bind _) = _
    rw [Ho' _ _ _ _ e4]
    rfl
theorem fe_ofT {u : Et} (H : FT t u) : FE t (evOfT u) := fr_bind H fun env env' x hp y hp' O e => by cases e; rfl
theorem ft_tru (H : FE t f) : FT t (etTru f) := fr_bind H fun env env' x hp y hp' O e => by
  obtain ⟨r, e2, e⟩ := Option.bind_eq_some_iff.mp e
  cases e
  show ((truM (t.v x) (t.h hp)).bind _) = _
  rw [fr_tru e2]
  rfl
theorem ft_not {u : Et} (H : FT t u) : FT t (etNot u) := fr_bind H fun env env' x hp y hp' O e => by cases e; rfl
theorem ft_and {u v : Et} (H : FT t u) (Hv : FT t v) : FT t (etAnd u v) := fr_bind H fun env env' x hp y hp' O e => by
  cases x with
  | false => cases e; rfl
  | true => exact Hv _ _ _ _ _ O e
theorem ft_or {u v : Et} (H : FT t u) (Hv : FT t v) : FT t (etOr u v) := fr_bind H fun env env' x hp y hp' O e => by
  cases x with
  | true => cases e; rfl
  | false => exact Hv _ _ _ _ _ O e
theorem fe_if {u : Et} (H : FT t u) (Hf : FE t f) (Hg : FE t g) : FE t (evIf u f g) := fr_bind H fun env env' x hp y hp' O e => by
  cases x with
  | true => exact Hf _ _ _ _ _ O e
  | false => exact Hg _ _ _ _ _ O e
theorem fe_and (H : FE t f) (Hg : FE t g) : FE t (evAnd f g) := fr_bind H fun env env' x hp y hp' O e => by
  obtain ⟨r, e2, e⟩ := Option.bind_eq_some_iff.mp e
  show ((truM (t.v x) (t.h hp)).bind _) = _
  rw [fr_tru e2]
  cases r with
  | false => cases e; rfl
  | true => exact Hg _ _ _ _ _ O e
theorem fe_or (H : FE t f) (Hg : FE t g) : FE t (evOr f g) := fr_bind H fun env env' x hp y hp' O e => by
  obtain ⟨r, e2, e⟩ := Option.bind_eq_some_iff.mp e
  show ((truM (t.v x) (t.h hp)).bind _) = _
  rw [fr_tru e2]
  cases r with
  | true => cases e; rfl
  | false => exact Hg _ _ _ _ _ O e
theorem fe_tup (H : ∀ f ∈ fs, FE t f) : FE t (evTup fs) := fr_bind (fa_all H) fun env env' x hp y hp' O e => by
  obtain ⟨ds, e2, e⟩ := Option.bind_eq_some_iff.mp e
  show ((datas (x.map t.v)).bind _) = _
  rw [fr_datas' e2]
  have e : (if ds.length ≤ sizeLine then some (MV.d (.tuple ds), hp) else none) = some (y, hp') := e
  split at e
  · rename_i hz
    cases e
    show (if ds.length ≤ sizeLine then _ else _) = _
    rw [if_pos hz]
    rfl
  · cases e
theorem fr_lst (H : ∀ f ∈ fs, FE t f) : FR t (evLst fs) := fr_bind (fa_all H) fun env env' x hp y hp' O e => by
  have e : (if x.length ≤ sizeLine then some (R.l x, hp) else none) = some (y, hp') := e
  split at e
  · rename_i hz
    cases e
    show (if (x.map t.v).length ≤ sizeLine then _ else _) = _
    rw [if_pos (by rw [List.length_map]; exact hz)]
    rfl
  · cases e
theorem fo_opt {u : Option Ev} (H : ∀ f ∈ u, FE t f) : Fr t id (evOpt u) := fun env env' hp x hp' O e => by
  cases u with
  | none => cases e; rfl
  | some f =>
    obtain ⟨p, e1, e⟩ := Option.bind_eq_some_iff.mp (show ((f env hp).bind _) = some (x, hp') from e)
    show ((f env' (t.h hp)).bind _) = _
    rw [H f rfl _ _ _ _ _ O e1]
    match p, e with
    | (.d (.int i), h2), e => cases e; rfl
    | (.d .none, h2), e => cases e
    | (.d (.bool _), h2), e => cases e
    | (.d (.str _), h2), e => cases e
    | (.d (.list _), h2), e => cases e
    | (.d (.tuple _), h2), e => cases e
    | (.d (.dict _), h2), e => cases e
    | (.c _, h2), e => cases e
    | (.k _, h2), e => cases e
theorem fr_slE {lo hi : Option Ev} (H : FE t f) (Hl : ∀ f ∈ lo, FE t f) (Hh : ∀ f ∈ hi, FE t f) : FR t (evSl f lo hi) := fr_bind H fun env env' x hp y hp' O e => by
  obtain ⟨l, e1, e⟩ := Option.bind_eq_some_iff.mp e
  obtain ⟨h, e2, e⟩ := Option.bind_eq_some_iff.mp e
  obtain ⟨r, e3, e⟩ := Option.bind_eq_some_iff.mp e
  cases e
  show ((evOpt lo env' (t.h hp)).bind _) = _
  rw [fo_opt Hl _ _ _ _ _ O e1]
  show ((evOpt hi env' (t.h l.2)).bind _) = _
  rw [fo_opt Hh _ _ _ _ _ O e2]
  show ((slM (t.v x) l.1 h.1 (t.h h.2)).bind _) = _
  rw [fr_sl e3]
  rfl
theorem fe_call {φ : List MV → Mh → Option (MV × Mh)} (Hφ : FC t φ) (H : ∀ f ∈ fs, FE t f) : FE t (evCall φ fs) := fr_bind (fa_all H) fun env env' x hp y hp' O e => Hφ _ _ _ _ e
theorem fe_mt {op : Mt} (Ho : FM t op) (H : FE t f) (Hs : ∀ f ∈ fs, FE t f) : FE t (evMt op f fs) := fr_bind H fun env env' x hp y hp' O e => by
  obtain ⟨xs, e1, e⟩ := Option.bind_eq_some_iff.mp e
  obtain ⟨q, e2, e⟩ := Option.bind_eq_some_iff.mp e
  show ((lstOf (t.v x) (t.h hp)).bind _) = _
  rw [fr_lstOf e1]
  show ((evAll fs env' (t.h hp)).bind _) = _
  rw [fa_all Hs _ _ _ _ _ O e2]
  exact Ho _ _ _ _ _ e
theorem fe_isi {ts : List String} (H : FE t f) : FE t (evIsi f ts) := fr_bind H fun env env' x hp y hp' O e => by
  obtain ⟨u, e1, e⟩ := Option.bind_eq_some_iff.mp e
  obtain ⟨b, e2, e⟩ := Option.bind_eq_some_iff.mp e
  cases e
  show ((tyM (t.v x) (t.h hp)).bind _) = _
  rw [fr_ty e1]
  show ((anyT u ts).bind _) = _
  rw [e2]
  rfl

/-! ### sources -/
theorem fr_at {s : Src} {i : Nat} {hp : Mh} {x : MV} (e : s.at i hp = some x) : (t.s s).at i (t.h hp) = some (t.v x) := by
  cases s with
  | rng lo n =>
    have e : (if i < n then some (MV.d (.int (lo + (i : Int)))) else none) = some x := e
    split at e
    · rename_i hz
      cases e
      show (if i < n then _ else _) = _
      rw [if_pos hz]
      rfl
    · cases e
  | seq y n =>
    have e : (match seqOf y hp with | some xs => if xs.length = n then xs[i]? else none | none => none) = some x := e
    split at e
    · rename_i xs q
      split at e
      · rename_i hz
        show (match seqOf (t.v y) (t.h hp) with | some xs => if xs.length = n then xs[i]? else none | none => none) = _
        rw [fr_seqOf q]
        show (if (xs.map t.v).length = n then (xs.map t.v)[i]? else none) = _
        rw [if_pos (by rw [List.length_map]; exact hz), List.getElem?_map, e]
        rfl
      · cases e
    · cases e
theorem fr_stop {s : Src} {hp : Mh} (e : s.stop hp = true) : (t.s s).stop (t.h hp) = true := by
  cases s with
  | rng lo n => rfl
  | seq y n =>
    have e : (match seqOf y hp with | some xs => decide (xs.length = n) | none => false) = true := e
    split at e
    · rename_i xs q
      show (match seqOf (t.v y) (t.h hp) with | some xs => decide (xs.length = n) | none => false) = true
      rw [fr_seqOf q]
      show decide ((xs.map t.v).length = n) = true
      rw [List.length_map]
      exact e
    · cases e
theorem fr_size {s : Src} : (t.s s).size = s.size := by cases s <;> rfl
theorem fi_seq (H : FE t f) : FI t (eiSeq f) := fr_bind H fun env env' x hp y hp' O e => by
  obtain ⟨xs, e1, e⟩ := Option.bind_eq_some_iff.mp e
  cases e
  show ((seqOf (t.v x) (t.h hp)).bind _) = _
  rw [fr_seqOf e1]
  show some (Src.seq (t.v x) (xs.map t.v).length, t.h hp) = _
  rw [List.length_map]
  rfl
theorem fi_rng1 (H : FE t f) : FI t (eiRng1 f) := fr_bind H fun env env' x hp y hp' O e => by
  match x, e with
  | .d (.int i), e =>
    have e : (if rngOk i then some (Src.rng 0 i.toNat, hp) else none) = some (y, hp') := e
    split at e
    · rename_i hz
      cases e
      show (if rngOk i then some (Src.rng 0 i.toNat, t.h hp) else none) = _
      rw [if_pos hz]
      rfl
    · cases e
  | .d .none, e => cases e
  | .d (.bool _), e => cases e
  | .d (.str _), e => cases e
  | .d (.list _), e => cases e
  | .d (.tuple _), e => cases e
  | .d (.dict _), e => cases e
  | .c _, e => cases e
  | .k _, e => cases e
theorem fi_rng2 (H : FE t f) (Hg : FE t g) : FI t (eiRng2 f g) := fr_bind H fun env env' x hp y hp' O e => by
  obtain ⟨q, e1, e⟩ := Option.bind_eq_some_iff.mp e
  show ((g env' (t.h hp)).bind _) = _
  rw [Hg _ _ _ _ _ O e1]
  match x, q, e with
  | .d (.int i), (.d (.int j), h2), e =>
    have e : (if rngOk i && rngOk j then some (Src.rng i (j - i).toNat, h2) else none) = some (y, hp') := e
    split at e
    · rename_i hz
      cases e
      show (if rngOk i && rngOk j then some (Src.rng i (j - i).toNat, t.h _) else none) = _
      rw [if_pos hz]
      rfl
    · cases e
  | .d (.int i), (.d .none, h2), e => cases e
  | .d (.int i), (.d (.bool _), h2), e => cases e
  | .d (.int i), (.d (.str _), h2), e => cases e
  | .d (.int i), (.d (.list _), h2), e => cases e
  | .d (.int i), (.d (.tuple _), h2), e => cases e
  | .d (.int i), (.d (.dict _), h2), e => cases e
  | .d (.int i), (.c _, h2), e => cases e
  | .d (.int i), (.k _, h2), e => cases e
  | .d .none, _, e => cases e
  | .d (.bool _), _, e => cases e
  | .d (.str _), _, e => cases e
  | .d (.list _), _, e => cases e
  | .d (.tuple _), _, e => cases e
  | .d (.dict _), _, e => cases e
  | .c _, _, e => cases e
  | .k _, _, e => cases e

/-! ### targets -/
theorem fg_name {i : Nat} : FG t (egName i) := fun x env env' hp e1 hp1 O e => by
  cases e
  exact ⟨_, rfl, O.set i x⟩
theorem fg_all : ∀ {gs : List Eg}, (∀ g ∈ gs, FG t g) → ∀ (xs : List MV) env env' hp e1 hp1, Ov t env env' → egAll gs xs env hp = some (e1, hp1) → ∃ e1', egAll gs (xs.map t.v) env' (t.h hp) = some (e1', t.h hp1) ∧ Ov t e1 e1'
  | [], _, [], env, env', hp, e1, hp1, O, e => by cases e; exact ⟨_, rfl, O⟩
  | [], _, _ :: _, env, env', hp, e1, hp1, O, e => by cases e
  | _ :: _, _, [], env, env', hp, e1, hp1, O, e => by cases e
  | g :: gs, H, x :: xs, env, env', hp, e1, hp1, O, e => by
    obtain ⟨p, q1, e⟩ := Option.bind_eq_some_iff.mp e
    obtain ⟨e2, q2, O2⟩ := H g List.mem_cons_self _ _ _ _ _ _ O q1
    obtain ⟨e3, q3, O3⟩ := fg_all (fun g hg => H g (List.mem_cons_of_mem _ hg)) xs _ _ _ _ _ O2 e
    refine ⟨e3, ?_, O3⟩
    show ((g (t.v x) env' (t.h hp)).bind fun p => egAll gs (xs.map t.v) p.1 p.2) = _
    rw [q2]
    exact q3
theorem fg_tup {gs : List Eg} (H : ∀ g ∈ gs, FG t g) : FG t (egTup gs) := fun x env env' hp e1 hp1 O e => by
  unfold egTup at e
  split at e
  · rename_i ds
    split at e
    · rename_i hz
      obtain ⟨e2, q2, O2⟩ := fg_all H _ _ _ _ _ _ O e
      refine ⟨e2, ?_, O2⟩
      show (if ds.length = gs.length then egAll gs (ds.map .d) env' (t.h hp) else none) = _
      rw [if_pos hz, ← q2, Tr.map_d]
    · cases e
  · cases e
theorem fg_sub (H : FE t f) (Hg : FE t g) : FG t (egSub f g) := fun x env env' hp e1 hp1 O e => by
  obtain ⟨p, q1, e⟩ := Option.bind_eq_some_iff.mp e
  obtain ⟨q, q2, e⟩ := Option.bind_eq_some_iff.mp e
  obtain ⟨h, q3, e⟩ := Option.bind_eq_some_iff.mp e
  cases e
  refine ⟨env', ?_, O⟩
  show ((f env' (t.h hp)).bind _) = _
  rw [H _ _ _ _ _ O q1]
  show ((g env' (t.h p.2)).bind _) = _
  rw [Hg _ _ _ _ _ O q2]
  show ((setM (t.v p.1) (t.v q.1) (t.v x) (t.h q.2)).bind _) = _
  rw [fr_setM q3]
  rfl

/-! ### comprehensions -/
theorem fr_goLc {s : Src} {g : Eg} {u : Et} {f : Ev} (Hg : FG t g) (Hu : FT t u) (Hf : FE t f) {env env' : Me} (O : Ov t env env') : ∀ (k i : Nat) (acc : List MV) (hp : Mh) (r : List MV) (hp' : Mh), goLc s g u f env k i acc hp = some (r, hp') → goLc (t.s s) g u f env' k i (acc.map t.v) (t.h hp) = some (r.map t.v, t.h hp')
  | 0, i, acc, hp, r, hp', e => by
    have e : (if s.stop hp = true then some (acc, hp) else none) = some (r, hp') := e
    split at e
    · rename_i hs
      cases e
      show (if (t.s s).stop (t.h hp) = true then _ else _) = _
      rw [if_pos (fr_stop hs)]
    · cases e
  | k + 1, i, acc, hp, r, hp', e => by
    obtain ⟨x, q1, e⟩ := Option.bind_eq_some_iff.mp e
    obtain ⟨p, q2, e⟩ := Option.bind_eq_some_iff.mp e
    obtain ⟨b, q3, e⟩ := Option.bind_eq_some_iff.mp e
    obtain ⟨e2, z2, O2⟩ := Hg _ _ _ _ _ _ O q2
    show (((t.s s).at i (t.h hp)).bind _) = _
    rw [fr_at q1]
    show ((g (t.v x) env' (t.h hp)).bind _) = _
    rw [z2]
    show ((u e2 (t.h p.2)).bind _) = _
    rw [Hu _ _ _ _ _ O2 q3]
    obtain ⟨b1, b2⟩ := b
    cases b1 with
    | true =>
      obtain ⟨y, q4, e⟩ := Option.bind_eq_some_iff.mp (show ((f p.1 b2).bind fun y => if acc.length < sizeLine then goLc s g u f env k (i + 1) (acc ++ [y.1]) y.2 else none) = some (r, hp') from e)
      show ((f e2 (t.h b2)).bind fun y => if (acc.map t.v).length < sizeLine then goLc (t.s s) g u f env' k (i + 1) (acc.map t.v ++ [y.1]) y.2 else none) = _
      rw [Hf _ _ _ _ _ O2 q4]
      have e : (if acc.length < sizeLine then goLc s g u f env k (i + 1) (acc ++ [y.1]) y.2 else none) = some (r, hp') := e
      split at e
      · rename_i hz
        show (if (acc.map t.v).length < sizeLine then goLc (t.s s) g u f env' k (i + 1) (acc.map t.v ++ [t.v y.1]) (t.h y.2) else none) = _
        rw [if_pos (by rw [List.length_map]; exact hz), ← fr_goLc Hg Hu Hf O k (i + 1) _ _ _ _ e]
        simp
      · cases e
    | false => exact fr_goLc Hg Hu Hf O k (i + 1) _ _ _ _ e
theorem fr_lc {it : Ei} {g : Eg} {u : Et} {f : Ev} {vs : List Nat} (Hi : FI t it) (Hg : FG t g) (Hu : FT t u) (Hf : FE t f) : FR t (evLc it g u f vs) := fr_bind Hi fun env env' x hp y hp' O e => by
  obtain ⟨p, q1, e⟩ := Option.bind_eq_some_iff.mp e
  cases e
  show ((goLc (t.s x) g u f (wipeE env' vs) (t.s x).size 0 [] (t.h hp)).bind _) = _
  rw [fr_size, show ([] : List MV) = [].map t.v from rfl, fr_goLc Hg Hu Hf (O.wipe vs) _ _ _ _ _ _ q1]
  rfl
theorem ft_yes : FT t etYes := fun env env' hp x hp' O e => by cases e; rfl

/-! ### statements -/
theorem fs_seq : ∀ {fs : List ES}, (∀ f ∈ fs, FS t f) → FS t (esSeq fs)
  | [], _ => fun env env' hp o e1 hp1 O e => by cases e; exact ⟨_, rfl, O⟩
  | f :: r, H => fun env env' hp o e1 hp1 O e => by
    obtain ⟨p, q1, e⟩ := Option.bind_eq_some_iff.mp e
    obtain ⟨o2, e2, h2⟩ := p
    obtain ⟨e3, z3, O3⟩ := H f List.mem_cons_self _ _ _ _ _ _ O q1
    have key : ∀ e1', (f env' (t.h hp)).bind (fun p => match p.1 with | .nx => esSeq r p.2.1 p.2.2 | _ => some p) = some (t.o o, e1', t.h hp1) → esSeq (f :: r) env' (t.h hp) = some (t.o o, e1', t.h hp1) := fun _ h => h
    cases o2 with
    | nx =>
      obtain ⟨e4, z4, O4⟩ := fs_seq (fun g hg => H g (List.mem_cons_of_mem _ hg)) _ _ _ _ _ _ O3 e
      exact ⟨e4, key _ (by rw [z3]; exact z4), O4⟩
    | rt x => cases e; exact ⟨e3, key _ (by rw [z3]; rfl), O3⟩
    | bk => cases e; exact ⟨e3, key _ (by rw [z3]; rfl), O3⟩
    | ct => cases e; exact ⟨e3, key _ (by rw [z3]; rfl), O3⟩
theorem fs_asg {g : Eg} (H : FE t f) (Hg : FG t g) : FS t (esAsg f g) := fun env env' hp o e1 hp1 O e => by
  obtain ⟨p, q1, e⟩ := Option.bind_eq_some_iff.mp e
  obtain ⟨q, q2, e⟩ := Option.bind_eq_some_iff.mp e
  cases e
  obtain ⟨e3, z3, O3⟩ := Hg _ _ _ _ _ _ O q2
  refine ⟨e3, ?_, O3⟩
  show ((f env' (t.h hp)).bind _) = _
  rw [H _ _ _ _ _ O q1]
  show ((g (t.v p.1) env' (t.h p.2)).bind _) = _
  rw [z3]
  rfl
theorem fs_par {gs : List Eg} (H : ∀ f ∈ fs, FE t f) (Hg : ∀ g ∈ gs, FG t g) : FS t (esPar fs gs) := fun env env' hp o e1 hp1 O e => by
  obtain ⟨p, q1, e⟩ := Option.bind_eq_some_iff.mp e
  obtain ⟨q, q2, e⟩ := Option.bind_eq_some_iff.mp e
  cases e
  obtain ⟨e3, z3, O3⟩ := fg_all Hg _ _ _ _ _ _ O q2
  refine ⟨e3, ?_, O3⟩
  show ((evAll fs env' (t.h hp)).bind _) = _
  rw [fa_all H _ _ _ _ _ O q1]
  show ((egAll gs (p.1.map t.v) env' (t.h p.2)).bind _) = _
  rw [z3]
  rfl
theorem fs_aug {i : Nat} {op : MV → MV → Mh → Option R} (Ho : F2 t op) (H : FE t f) : FS t (esAug i op f) := fun env env' hp o e1 hp1 O e => by
  unfold esAug at e
  split at e
  · rename_i x q
    obtain ⟨p, q1, e⟩ := Option.bind_eq_some_iff.mp e
    obtain ⟨r, q2, e⟩ := Option.bind_eq_some_iff.mp e
    split at e
    · rename_i y
      cases e
      refine ⟨_, ?_, O.set i y⟩
      unfold esAug
      rw [O.2 i x q]
      show ((f env' (t.h hp)).bind _) = _
      rw [H _ _ _ _ _ O q1]
      show ((op (t.v x) (t.v p.1) (t.h p.2)).bind _) = _
      rw [Ho _ _ _ _ q2]
      rfl
    · cases e
  · cases e
theorem fs_expr (H : FE t f) : FS t (esExpr f) := fun env env' hp o e1 hp1 O e => by
  obtain ⟨p, q1, e⟩ := Option.bind_eq_some_iff.mp e
  cases e
  refine ⟨env', ?_, O⟩
  show ((f env' (t.h hp)).bind _) = _
  rw [H _ _ _ _ _ O q1]
  rfl
theorem fs_ret (H : FE t f) : FS t (esRet f) := fun env env' hp o e1 hp1 O e => by
  obtain ⟨p, q1, e⟩ := Option.bind_eq_some_iff.mp e
  cases e
  refine ⟨env', ?_, O⟩
  show ((f env' (t.h hp)).bind _) = _
  rw [H _ _ _ _ _ O q1]
  rfl
theorem fs_retN : FS t esRetN := fun env env' hp o e1 hp1 O e => by cases e; exact ⟨_, rfl, O⟩
theorem fs_break : FS t esBreak := fun env env' hp o e1 hp1 O e => by cases e; exact ⟨_, rfl, O⟩
theorem fs_cont : FS t esCont := fun env env' hp o e1 hp1 O e => by cases e; exact ⟨_, rfl, O⟩
theorem fs_if {u : Et} {a b : ES} (H : FT t u) (Ha : FS t a) (Hb : FS t b) : FS t (esIf u a b) := fun env env' hp o e1 hp1 O e => by
  obtain ⟨p, q1, e⟩ := Option.bind_eq_some_iff.mp e
  obtain ⟨p1, p2⟩ := p
  have key : ∀ e1', ((u env' (t.h hp)).bind fun p => if p.1 = true then a env' p.2 else b env' p.2) = some (t.o o, e1', t.h hp1) → esIf u a b env' (t.h hp) = some (t.o o, e1', t.h hp1) := fun _ h => h
  cases p1 with
  | true =>
    obtain ⟨e3, z3, O3⟩ := Ha _ _ _ _ _ _ O e
    exact ⟨e3, key _ (by rw [H _ _ _ _ _ O q1]; exact z3), O3⟩
  | false =>
    obtain ⟨e3, z3, O3⟩ := Hb _ _ _ _ _ _ O e
    exact ⟨e3, key _ (by rw [H _ _ _ _ _ O q1]; exact z3), O3⟩
theorem fs_while {u : Et} {b : ES} (H : FT t u) (Hb : FS t b) : ∀ k, FS t (goWhile u b k)
  | 0 => fun env env' hp o e1 hp1 O e => by cases e
  | k + 1 => fun env env' hp o e1 hp1 O e => by
    obtain ⟨p, q1, e⟩ := Option.bind_eq_some_iff.mp e
    obtain ⟨p1, p2⟩ := p
    have key : ∀ e1', ((u env' (t.h hp)).bind fun p => if p.1 = true then (b env' p.2).bind fun o => match o.1 with
      | .nx => goWhile u b k o.2.1 o.2.2
      | .ct => goWhile u b k o.2.1 o.2.2
      | .bk => some (.nx, o.2.1, o.2.2)
      | .rt x => some (.rt x, o.2.1, o.2.2)
    else some (.nx, env', p.2)) = some (t.o o, e1', t.h hp1) → goWhile u b (k + 1) env' (t.h hp) = some (t.o o, e1', t.h hp1) := fun _ h => h
    cases p1 with
    | false =>
      cases e
      exact ⟨env', key _ (by rw [H _ _ _ _ _ O q1]; rfl), O⟩
    | true =>
      obtain ⟨r, q2, e⟩ := Option.bind_eq_some_iff.mp (show ((b env p2).bind fun o => match o.1 with
        | .nx => goWhile u b k o.2.1 o.2.2
        | .ct => goWhile u b k o.2.1 o.2.2
        | .bk => some (.nx, o.2.1, o.2.2)
        | .rt x => some (.rt x, o.2.1, o.2.2)) = some (o, e1, hp1) from e)
      obtain ⟨r1, r2, r3⟩ := r
      obtain ⟨e3, z3, O3⟩ := Hb _ _ _ _ _ _ O q2
      have key2 : ∀ e1', ((b env' (t.h p2)).bind fun o => match o.1 with
        | .nx => goWhile u b k o.2.1 o.2.2
        | .ct => goWhile u b k o.2.1 o.2.2
        | .bk => some (.nx, o.2.1, o.2.2)
        | .rt x => some (.rt x, o.2.1, o.2.2)) = some (t.o o, e1', t.h hp1) → goWhile u b (k + 1) env' (t.h hp) = some (t.o o, e1', t.h hp1) := fun e1' h => key e1' (by rw [H _ _ _ _ _ O q1]; exact h)
      cases r1 with
      | nx =>
        obtain ⟨e4, z4, O4⟩ := fs_while H Hb k _ _ _ _ _ _ O3 e
        exact ⟨e4, key2 _ (by rw [z3]; exact z4), O4⟩
      | ct =>
        obtain ⟨e4, z4, O4⟩ := fs_while H Hb k _ _ _ _ _ _ O3 e
        exact ⟨e4, key2 _ (by rw [z3]; exact z4), O4⟩
      | bk => cases e; exact ⟨e3, key2 _ (by rw [z3]; rfl), O3⟩
      | rt x => cases e; exact ⟨e3, key2 _ (by rw [z3]; rfl), O3⟩
theorem fs_goFor {s : Src} {g : Eg} {b : ES} (Hg : FG t g) (Hb : FS t b) : ∀ k i, ∀ env env' hp o e1 hp1, Ov t env env' → goFor s g b k i env hp = some (o, e1, hp1) → ∃ e1', goFor (t.s s) g b k i env' (t.h hp) = some (t.o o, e1', t.h hp1) ∧ Ov t e1 e1'
  | 0, i => fun env env' hp o e1 hp1 O e => by
    have e : (if s.stop hp = true then some (Out.nx, env, hp) else none) = some (o, e1, hp1) := e
    split at e
    · rename_i hs
      cases e
      refine ⟨env', ?_, O⟩
      show (if (t.s s).stop (t.h hp) = true then _ else _) = _
      rw [if_pos (fr_stop hs)]
      rfl
    · cases e
  | k + 1, i => fun env env' hp o e1 hp1 O e => by
    obtain ⟨x, q0, e⟩ := Option.bind_eq_some_iff.mp e
    obtain ⟨p, q1, e⟩ := Option.bind_eq_some_iff.mp e
    obtain ⟨r, q2, e⟩ := Option.bind_eq_some_iff.mp e
    obtain ⟨r1, r2, r3⟩ := r
    obtain ⟨e2, z2, O2⟩ := Hg _ _ _ _ _ _ O q1
    obtain ⟨e3, z3, O3⟩ := Hb _ _ _ _ _ _ O2 q2
    have key : ∀ e1', ((b e2 (t.h p.2)).bind fun o => match o.1 with
        | .nx => goFor (t.s s) g b k (i + 1) o.2.1 o.2.2
        | .ct => goFor (t.s s) g b k (i + 1) o.2.1 o.2.2
        | .bk => some (.nx, o.2.1, o.2.2)
        | .rt x => some (.rt x, o.2.1, o.2.2)) = some (t.o o, e1', t.h hp1) → goFor (t.s s) g b (k + 1) i env' (t.h hp) = some (t.o o, e1', t.h hp1) := fun e1' h => by
      show (((t.s s).at i (t.h hp)).bind fun x => (g x env' (t.h hp)).bind fun p => (b p.1 p.2).bind _) = _
      rw [fr_at q0]
      show ((g (t.v x) env' (t.h hp)).bind fun p => (b p.1 p.2).bind _) = _
      rw [z2]
      exact h
    cases r1 with
    | nx =>
      obtain ⟨e4, z4, O4⟩ := fs_goFor Hg Hb k (i + 1) _ _ _ _ _ _ O3 e
      exact ⟨e4, key _ (by rw [z3]; exact z4), O4⟩
    | ct =>
      obtain ⟨e4, z4, O4⟩ := fs_goFor Hg Hb k (i + 1) _ _ _ _ _ _ O3 e
      exact ⟨e4, key _ (by rw [z3]; exact z4), O4⟩
    | bk => cases e; exact ⟨e3, key _ (by rw [z3]; rfl), O3⟩
    | rt x => cases e; exact ⟨e3, key _ (by rw [z3]; rfl), O3⟩
theorem fs_for {it : Ei} {g : Eg} {b : ES} (Hi : FI t it) (Hg : FG t g) (Hb : FS t b) : FS t (esFor it g b) := fun env env' hp o e1 hp1 O e => by
  obtain ⟨p, q1, e⟩ := Option.bind_eq_some_iff.mp e
  obtain ⟨e3, z3, O3⟩ := fs_goFor Hg Hb _ _ _ _ _ _ _ _ O e
  refine ⟨e3, ?_, O3⟩
  show ((it env' (t.h hp)).bind _) = _
  rw [Hi _ _ _ _ _ O q1]
  show goFor (t.s p.1) g b (t.s p.1).size 0 env' (t.h p.2) = _
  rw [fr_size]
  exact z3
end
end L2.MP
/-! MiniPy P: transport by compile functions and through calls. -/
namespace L2.MP
open PySem PySem.Spec PyProof.Rows

structure CtF (t : Tr) (c : Ct) : Prop where
  φ : ∀ k, FC t (c.φ k)
  dat : ∀ x d, c.G x = some (.dat d) → ∃ y, d = .d y
structure Gf (t : Tr) (n : Nat) : Prop where
  E : ∀ c sc e f, CtF t c → compE n c sc e = some f → FE t f
  T : ∀ c sc e f, CtF t c → compT n c sc e = some f → FT t f
  I : ∀ c sc e f, CtF t c → compI n c sc e = some f → FI t f
  G : ∀ c sc ws e g, CtF t c → compG n c sc ws e = some g → FG t g.1

section
variable {t : Tr} {c : Ct} {sc : Scope}
theorem mapO_mem {α β : Type} {f : α → Option β} {P : β → Prop} : ∀ {es : List α} {fs : List β}, mapO f es = some fs → (∀ e g, f e = some g → P g) → ∀ g ∈ fs, P g
  | [], _, h, _, g, hg => by cases h; cases hg
  | a :: r, _, h, H, g, hg => by
    obtain ⟨b, e1, h⟩ := Option.bind_eq_some_iff.mp h
    obtain ⟨bs, e2, h⟩ := Option.bind_eq_some_iff.mp h
    cases h
    rcases List.mem_cons.mp hg with rfl | hg
    · exact H _ _ e1
    · exact mapO_mem e2 H g hg
theorem look_f (C : CtF t c) {x : Str} {f : Ev} (h : look c sc x = some f) : FE t f := by
  unfold look at h
  split at h
  · cases h
  · split at h
    · obtain ⟨i, _, rfl⟩ := Option.map_eq_some_iff.mp h; exact fe_var
    · obtain ⟨i, _, rfl⟩ := Option.map_eq_some_iff.mp h; exact fe_var
    · obtain ⟨i, _, rfl⟩ := Option.map_eq_some_iff.mp h; exact fe_var
    · split at h
      · rename_i d hg
        cases h
        obtain ⟨y, rfl⟩ := C.dat _ _ hg
        exact fe_k
      · cases h
    · cases h
theorem cst_f {k : Const} {f : Ev} (h : cst k = some f) : FE t f := by
  unfold cst at h
  split at h <;> first | (cases h; exact fe_k) | cases h
theorem stl_f {pos : Pos} {f : Er} (H : FR t f) : FE t (stl c pos f) := by
  unfold stl
  split
  · exact fe_mk H
  · exact fe_st H
theorem boolE_f {op : PySem.BoolOp} : ∀ {fs : List Ev} {f : Ev}, (∀ g ∈ fs, FE t g) → boolE op fs = some f → FE t f
  | [], _, _, h => by cases h
  | [_], _, H, h => by cases h; exact H _ List.mem_cons_self
  | f :: g :: r, _, H, h => by
    obtain ⟨u, e1, h⟩ := Option.bind_eq_some_iff.mp h
    cases h
    have ih := boolE_f (fun z hz => H z (List.mem_cons_of_mem _ hz)) e1
    cases op with
    | And => exact fe_and (H _ List.mem_cons_self) ih
    | Or => exact fe_or (H _ List.mem_cons_self) ih
theorem boolT_f {op : PySem.BoolOp} : ∀ {fs : List Et} {f : Et}, (∀ g ∈ fs, FT t g) → boolT op fs = some f → FT t f
  | [], _, _, h => by cases h
  | [_], _, H, h => by cases h; exact H _ List.mem_cons_self
  | f :: g :: r, _, H, h => by
    obtain ⟨u, e1, h⟩ := Option.bind_eq_some_iff.mp h
    cases h
    have ih := boolT_f (fun z hz => H z (List.mem_cons_of_mem _ hz)) e1
    cases op with
    | And => exact ft_and (H _ List.mem_cons_self) ih
    | Or => exact ft_or (H _ List.mem_cons_self) ih
theorem argFz_f {rf : List Nat} : ∀ {fs : List Ev} (i : Nat), (∀ g ∈ fs, FE t g) → ∀ g ∈ argFz rf i fs, FE t g
  | [], _, _, g, hg => by cases hg
  | f :: r, i, H, g, hg => by
    rcases List.mem_cons.mp hg with rfl | hg
    · split
      · exact H _ List.mem_cons_self
      · exact fe_fz (H _ List.mem_cons_self)
    · exact argFz_f (i + 1) (fun z hz => H z (List.mem_cons_of_mem _ hz)) g hg
theorem map_fz {fs : List Ev} (H : ∀ g ∈ fs, FE t g) : ∀ g ∈ fs.map evFz, FE t g := fun g hg => by
  obtain ⟨f, hf, rfl⟩ := List.mem_map.mp hg
  exact fe_fz (H f hf)
theorem callE_f (C : CtF t c) {x : Str} {pos : Pos} {fs : List Ev} {f : Ev} (H : ∀ g ∈ fs, FE t g) (h : callE c sc x pos fs = some f) : FE t f := by
  unfold callE at h
  split at h
  · split at h
    · split at h
      · cases h; exact fe_call (C.φ _) (argFz_f 0 H)
      · cases h
    · cases h
    · unfold bltE at h
      split at h
      · cases h
      · obtain ⟨k, e1, h⟩ := Option.bind_eq_some_iff.mp h
        cases h
        exact stl_f (fr_bltE (fr_blt k) H)
  · cases h
theorem isiE_f {E : Expr → Option Ev} {ty : Expr → Option String} (H : ∀ e g, E e = some g → FE t g) {es : List Expr} {f : Ev} (h : isiE E ty es = some f) : FE t f := by
  unfold isiE at h
  split at h
  · obtain ⟨g, e1, h⟩ := Option.bind_eq_some_iff.mp h
    obtain ⟨ts, e2, h⟩ := Option.bind_eq_some_iff.mp h
    split at h
    · cases h; exact fe_isi (H _ _ e1)
    · cases h
  · obtain ⟨g, e1, h⟩ := Option.bind_eq_some_iff.mp h
    obtain ⟨ts, e2, h⟩ := Option.bind_eq_some_iff.mp h
    cases h; exact fe_isi (H _ _ e1)
  · cases h
theorem gfE {n : Nat} (ih : Gf t n) : ∀ c sc e f, CtF t c → compE (n + 1) c sc e = some f → FE t f := by
  intro c sc e f C h
  have hE : ∀ e g, compE n c sc e = some g → FE t g := fun e g q => ih.E c sc e g C q
  unfold compE at h
  split at h
  · exact look_f C h
  · exact cst_f h
  · obtain ⟨f1, e1, h⟩ := Option.bind_eq_some_iff.mp h
    obtain ⟨f2, e2, h⟩ := Option.bind_eq_some_iff.mp h
    obtain ⟨o, e3, h⟩ := Option.bind_eq_some_iff.mp h
    cases h
    exact stl_f (fr_bin (fr_binM e3) (hE _ _ e1) (hE _ _ e2))
  · obtain ⟨f1, e1, h⟩ := Option.bind_eq_some_iff.mp h
    cases h
    exact fe_st (fr_un fr_neg (hE _ _ e1))
  · obtain ⟨f1, e1, h⟩ := Option.bind_eq_some_iff.mp h
    cases h
    exact fe_ofT (ft_not (ft_tru (hE _ _ e1)))
  · obtain ⟨fs, e1, h⟩ := Option.bind_eq_some_iff.mp h
    exact boolE_f (mapO_mem e1 hE) h
  · split at h
    · cases h
    · obtain ⟨f1, e1, h⟩ := Option.bind_eq_some_iff.mp h
      obtain ⟨f2, e2, h⟩ := Option.bind_eq_some_iff.mp h
      cases h
      exact fe_ofT (ft_cmp (fr_cmp _) (hE _ _ e1) (hE _ _ e2))
  · split at h
    · cases h
    · obtain ⟨f1, e1, h⟩ := Option.bind_eq_some_iff.mp h
      obtain ⟨f2, e2, h⟩ := Option.bind_eq_some_iff.mp h
      obtain ⟨f3, e3, h⟩ := Option.bind_eq_some_iff.mp h
      cases h
      exact fe_ofT (ft_cmp2 (fr_cmp _) (fr_cmp _) (hE _ _ e1) (hE _ _ e2) (hE _ _ e3))
  · obtain ⟨f1, e1, h⟩ := Option.bind_eq_some_iff.mp h
    obtain ⟨f2, e2, h⟩ := Option.bind_eq_some_iff.mp h
    obtain ⟨f3, e3, h⟩ := Option.bind_eq_some_iff.mp h
    cases h
    exact fe_if (ih.T _ _ _ _ C e1) (hE _ _ e2) (hE _ _ e3)
  · obtain ⟨fs, e1, h⟩ := Option.bind_eq_some_iff.mp h
    cases h
    exact fe_tup (map_fz (mapO_mem e1 hE))
  · obtain ⟨fs, e1, h⟩ := Option.bind_eq_some_iff.mp h
    cases h
    exact stl_f (fr_lst (mapO_mem e1 hE))
  · rename_i a lo hi p1 p2
    obtain ⟨f1, e1, h⟩ := Option.bind_eq_some_iff.mp h
    obtain ⟨gl, e2, h⟩ := Option.bind_eq_some_iff.mp h
    obtain ⟨gh, e3, h⟩ := Option.bind_eq_some_iff.mp h
    cases h
    refine stl_f (fr_slE (hE _ _ e1) ?_ ?_)
    · intro g hg
      cases lo with
      | none => cases e2; cases hg
      | some l =>
        obtain ⟨g', z1, z2⟩ := Option.bind_eq_some_iff.mp e2
        cases z2
        cases hg
        exact hE _ _ z1
    · intro g hg
      cases hi with
      | none => cases e3; cases hg
      | some l =>
        obtain ⟨g', z1, z2⟩ := Option.bind_eq_some_iff.mp e3
        cases z2
        cases hg
        exact hE _ _ z1
  · obtain ⟨f1, e1, h⟩ := Option.bind_eq_some_iff.mp h
    obtain ⟨f2, e2, h⟩ := Option.bind_eq_some_iff.mp h
    cases h
    exact fe_st (fr_bin fr_ix (hE _ _ e1) (hE _ _ e2))
  · split at h
    · split at h
      · exact isiE_f hE h
      · cases h
    · obtain ⟨fs, e1, h⟩ := Option.bind_eq_some_iff.mp h
      exact callE_f C (mapO_mem e1 hE) h
  · split at h
    · obtain ⟨k, e1, h⟩ := Option.bind_eq_some_iff.mp h
      obtain ⟨f1, e2, h⟩ := Option.bind_eq_some_iff.mp h
      obtain ⟨fs, e3, h⟩ := Option.bind_eq_some_iff.mp h
      cases h
      exact fe_mt (fr_mt k) (hE _ _ e2) (map_fz (mapO_mem e3 hE))
    · cases h
  · split at h
    · obtain ⟨ei, e1, h⟩ := Option.bind_eq_some_iff.mp h
      obtain ⟨g, e2, h⟩ := Option.bind_eq_some_iff.mp h
      obtain ⟨u, e3, h⟩ := Option.bind_eq_some_iff.mp h
      obtain ⟨f1, e4, h⟩ := Option.bind_eq_some_iff.mp h
      split at h
      · cases h
        refine stl_f (fr_lc (ih.I _ _ _ _ C e1) (ih.G _ _ _ _ _ C e2) ?_ (ih.E _ _ _ _ C e4))
        split at e3
        · cases e3; exact ft_yes
        · exact ih.T _ _ _ _ C e3
        · cases e3
      · cases h
    · cases h
  · cases h
theorem gfT {n : Nat} (ih : Gf t n) : ∀ c sc e f, CtF t c → compT (n + 1) c sc e = some f → FT t f := by
  intro c sc e f C h
  have hE : ∀ e g, compE n c sc e = some g → FE t g := fun e g q => ih.E c sc e g C q
  have hT : ∀ e g, compT n c sc e = some g → FT t g := fun e g q => ih.T c sc e g C q
  unfold compT at h
  split at h
  · obtain ⟨f1, e1, h⟩ := Option.bind_eq_some_iff.mp h
    cases h
    exact ft_not (hT _ _ e1)
  · obtain ⟨fs, e1, h⟩ := Option.bind_eq_some_iff.mp h
    exact boolT_f (mapO_mem e1 hT) h
  · split at h
    · cases h
    · obtain ⟨f1, e1, h⟩ := Option.bind_eq_some_iff.mp h
      obtain ⟨f2, e2, h⟩ := Option.bind_eq_some_iff.mp h
      cases h
      exact ft_cmp (fr_cmp _) (hE _ _ e1) (hE _ _ e2)
  · split at h
    · cases h
    · obtain ⟨f1, e1, h⟩ := Option.bind_eq_some_iff.mp h
      obtain ⟨f2, e2, h⟩ := Option.bind_eq_some_iff.mp h
      obtain ⟨f3, e3, h⟩ := Option.bind_eq_some_iff.mp h
      cases h
      exact ft_cmp2 (fr_cmp _) (fr_cmp _) (hE _ _ e1) (hE _ _ e2) (hE _ _ e3)
  · cases h
  · cases h
  · obtain ⟨f1, e1, h⟩ := Option.bind_eq_some_iff.mp h
    cases h
    exact ft_tru (hE _ _ e1)
theorem gfI {n : Nat} (ih : Gf t n) : ∀ c sc e f, CtF t c → compI (n + 1) c sc e = some f → FI t f := by
  intro c sc e f C h
  have hE : ∀ e g, compE n c sc e = some g → FE t g := fun e g q => ih.E c sc e g C q
  have plain : ∀ {e : Expr}, ((compE n c sc e).bind fun f => some (eiSeq f)) = some f → FI t f := fun {e} h => by
    obtain ⟨f1, e1, h⟩ := Option.bind_eq_some_iff.mp h
    cases h
    exact fi_seq (hE _ _ e1)
  unfold compI at h
  split at h
  · split at h
    · split at h
      · obtain ⟨f1, e1, h⟩ := Option.bind_eq_some_iff.mp h
        cases h
        exact fi_rng1 (hE _ _ e1)
      · cases h
    · exact plain h
  · split at h
    · split at h
      · obtain ⟨f1, e1, h⟩ := Option.bind_eq_some_iff.mp h
        obtain ⟨f2, e2, h⟩ := Option.bind_eq_some_iff.mp h
        cases h
        exact fi_rng2 (hE _ _ e1) (hE _ _ e2)
      · cases h
    · exact plain h
  · exact plain h
theorem gfG {n : Nat} (ih : Gf t n) : ∀ c sc ws e g, CtF t c → compG (n + 1) c sc ws e = some g → FG t g.1 := by
  intro c sc ws e g C h
  unfold compG at h
  split at h
  · split at h
    · obtain ⟨i, e1, h⟩ := Option.bind_eq_some_iff.mp h
      cases h
      exact fg_name
    · cases h
  · obtain ⟨gs, e1, h⟩ := Option.bind_eq_some_iff.mp h
    cases h
    refine fg_tup fun g hg => ?_
    obtain ⟨g', hg', rfl⟩ := List.mem_map.mp hg
    exact mapO_mem (P := fun g => FG t g.1) e1 (fun e g q => ih.G _ _ _ _ _ C q) g' hg'
  · cases h
  · obtain ⟨f1, e1, h⟩ := Option.bind_eq_some_iff.mp h
    obtain ⟨f2, e2, h⟩ := Option.bind_eq_some_iff.mp h
    cases h
    exact fg_sub (ih.E _ _ _ _ C e1) (ih.E _ _ _ _ C e2)
  · cases h
theorem gf : ∀ n, Gf t n
  | 0 => ⟨fun c sc e f _ h => by simp [compE] at h, fun c sc e f _ h => by simp [compT] at h, fun c sc e f _ h => by simp [compI] at h, fun c sc ws e g _ h => by simp [compG] at h⟩
  | n + 1 => ⟨gfE (gf n), gfT (gf n), gfI (gf n), gfG (gf n)⟩
theorem parS_f (C : CtF t c) {n : Nat} {ts es : List Expr} {f : ES} (h : parS n c sc ts es = some f) : FS t f := by
  obtain ⟨fs, e1, h⟩ := Option.bind_eq_some_iff.mp h
  obtain ⟨r, e2, h⟩ := Option.bind_eq_some_iff.mp h
  have hE := mapO_mem e1 (fun e g q => (gf n).E c sc e g C q)
  split at h
  · obtain ⟨is, e3, h⟩ := Option.bind_eq_some_iff.mp h
    split at h
    · cases h
      refine fs_par hE fun g hg => ?_
      obtain ⟨i, _, rfl⟩ := List.mem_map.mp hg
      exact fg_name
    · cases h
  · obtain ⟨gs, e3, h⟩ := Option.bind_eq_some_iff.mp h
    split at h
    · cases h
      refine fs_par hE fun g hg => ?_
      obtain ⟨g', hg', rfl⟩ := List.mem_map.mp hg
      exact mapO_mem (P := fun g => FG t g.1) e3 (fun e g q => (gf n).G _ _ _ _ _ C q) g' hg'
    · cases h
theorem gfS : ∀ n c sc st f, CtF t c → compS n c sc st = some f → FS t f
  | 0, c, sc, st, f, C, h => by simp [compS] at h
  | n + 1, c, sc, st, f, C, h => by
    have hS : ∀ st f, compS n c sc st = some f → FS t f := fun st f q => gfS n c sc st f C q
    have hE : ∀ e g, compE n c sc e = some g → FE t g := fun e g q => (gf n).E c sc e g C q
    unfold compS at h
    split at h
    · unfold asgS at h
      split at h
      · exact parS_f C h
      · obtain ⟨f1, e1, h⟩ := Option.bind_eq_some_iff.mp h
        obtain ⟨g1, e2, h⟩ := Option.bind_eq_some_iff.mp h
        cases h
        exact fs_asg (hE _ _ e1) ((gf n).G _ _ _ _ _ C e2)
    · split at h
      · obtain ⟨i, e1, h⟩ := Option.bind_eq_some_iff.mp h
        obtain ⟨o, e2, h⟩ := Option.bind_eq_some_iff.mp h
        obtain ⟨f1, e3, h⟩ := Option.bind_eq_some_iff.mp h
        cases h
        exact fs_aug (fr_augM e2) (hE _ _ e3)
      · cases h
    · split at h
      · cases h
      · obtain ⟨f1, e1, h⟩ := Option.bind_eq_some_iff.mp h
        cases h
        exact fs_expr (hE _ _ e1)
    · obtain ⟨f1, e1, h⟩ := Option.bind_eq_some_iff.mp h
      cases h
      refine fs_ret ?_
      unfold retE
      split
      · exact hE _ _ e1
      · exact fe_fz (hE _ _ e1)
    · cases h; exact fs_retN
    · obtain ⟨u, e1, h⟩ := Option.bind_eq_some_iff.mp h
      obtain ⟨a, e2, h⟩ := Option.bind_eq_some_iff.mp h
      obtain ⟨b, e3, h⟩ := Option.bind_eq_some_iff.mp h
      cases h
      exact fs_if ((gf n).T _ _ _ _ C e1) (fs_seq (mapO_mem e2 hS)) (fs_seq (mapO_mem e3 hS))
    · obtain ⟨u, e1, h⟩ := Option.bind_eq_some_iff.mp h
      obtain ⟨b, e3, h⟩ := Option.bind_eq_some_iff.mp h
      cases h
      exact fs_while ((gf n).T _ _ _ _ C e1) (fs_seq (mapO_mem e3 hS)) _
    · split at h
      · cases h
      · obtain ⟨u, e1, h⟩ := Option.bind_eq_some_iff.mp h
        obtain ⟨g, e2, h⟩ := Option.bind_eq_some_iff.mp h
        obtain ⟨b, e3, h⟩ := Option.bind_eq_some_iff.mp h
        cases h
        exact fs_for ((gf n).I _ _ _ _ C e1) ((gf n).G _ _ _ _ _ C e2) (fs_seq (mapO_mem e3 hS))
    · cases h; exact fs_break
    · cases h; exact fs_cont
    · cases h
theorem gOf_f {T : List Fd} {gd : List (Str × MV)} {m : Nat} {d : Fd} {φ : Nat → List MV → Mh → Option (MV × Mh)} (hg : ∀ p ∈ gd, ∃ y, p.2 = MV.d y) (Hφ : ∀ k, FC t (φ k)) : CtF t { N := d.N, G := gOf T gd, mks := d.mks, fuel := m, φ := φ } :=
  ⟨Hφ, fun x v h => hg (x, v) (PySem.mem_of_lookup (gOf_dat h))⟩
theorem body_f {T : List Fd} {gd : List (Str × MV)} {m : Nat} {d : Fd} {φ : Nat → List MV → Mh → Option (MV × Mh)} (hg : ∀ p ∈ gd, ∃ y, p.2 = MV.d y) (Hφ : ∀ k, FC t (φ k)) {f : ES} (h : bodyOf T gd m φ d = some f) : FS t f := by
  obtain ⟨fs, e1, rfl⟩ := Option.map_eq_some_iff.mp h
  exact fs_seq (mapO_mem e1 fun st f q => gfS _ _ _ _ _ (gOf_f hg Hφ) q)
theorem run_f {f : ES} (H : FS t f) {nl : Nat} : FC t (runBody f nl) := fun as hp r hp' e => by
  unfold runBody at e
  have O : Ov t (as.map some ++ List.replicate (nl - as.length) none) ((as.map t.v).map some ++ List.replicate (nl - (as.map t.v).length) none) := by
    refine ⟨by simp, fun i x e => ?_⟩
    by_cases hi : i < as.length
    · rw [List.getElem?_append_left (by simpa using hi), List.getElem?_map] at e ⊢
      rw [List.getElem?_map]
      cases q : as[i]? with
      | none => rw [q] at e; cases e
      | some y => rw [q] at e; cases e; rfl
    · rw [List.getElem?_append_right (by simpa using hi), List.getElem?_replicate] at e
      split at e <;> cases e
  have hk : ∀ {h2 : Mh}, (t.h h2).take (t.h hp).length = t.h (h2.take hp.length) := fun {h2} => by rw [Tr.h_length, Tr.h_take]
  unfold runBody
  split at e
  · rename_i env' hp2 q
    cases e
    obtain ⟨e1, z1, _⟩ := H _ _ _ _ _ _ O q
    rw [z1]
    show some (MV.d .none, (t.h hp2).take (t.h hp).length) = _
    rw [hk]
    rfl
  · rename_i x env' hp2 q
    cases e
    obtain ⟨e1, z1, _⟩ := H _ _ _ _ _ _ O q
    rw [z1]
    show some (MV.d x, (t.h hp2).take (t.h hp).length) = _
    rw [hk]
    rfl
  · rename_i x env' hp2 q
    cases e
    obtain ⟨e1, z1, _⟩ := H _ _ _ _ _ _ O q
    rw [z1]
    rfl
  · cases e
/-- a def's answer -/
theorem sem_f {T : List Fd} {gd : List (Str × MV)} {m : Nat} (hg : ∀ p ∈ gd, ∃ y, p.2 = MV.d y) : ∀ n k, FC t (sem T gd m n k)
  | 0, _ => fun as hp r hp' e => by cases e
  | n + 1, k => fun as hp r hp' e => by
    have e : (match T[k]? with
      | some d => if as.length = d.ps.length then match bodyOf T gd m (sem T gd m n) d with
          | some f => runBody f d.N.length as hp
          | none => none
        else none
      | none => none) = some (r, hp') := e
    show (match T[k]? with
      | some d => if (as.map t.v).length = d.ps.length then match bodyOf T gd m (sem T gd m n) d with
          | some f => runBody f d.N.length (as.map t.v) (t.h hp)
          | none => none
        else none
      | none => none) = _
    cases hd : T[k]? with
    | none => rw [hd] at e; cases e
    | some d =>
      rw [hd] at e
      simp only at e ⊢
      split at e
      · rename_i hl
        rw [if_pos (by rw [List.length_map]; exact hl)]
        split at e
        · rename_i f hf
          exact run_f (body_f hg (fun k => sem_f hg n k) hf) _ _ _ _ e
        · cases e
      · cases e
end
end L2.MP
/-! MiniPy Q: the draws of the laws k67 .. k76. -/
namespace L2.MP
open PySem PySem.Spec PyProof.Rows

abbrev ki (i : Int) : Ev := evK (.d (.int i))
def bRefill : ES := esSeq [
  esAsg (ki 0) (egName 2),
  esIf (etTru (evVar 0)) (esSeq [esAsg (evSt (evBin ixM (evVar 0) (evSt (evBin opMod (evVar 1) (evSt (evBlt lenM [evVar 0])))))) (egName 2)]) (esSeq []),
  esIf (evCmp (cmpM .Lt) (evVar 2) (ki 0)) (esSeq [esAsg (evSt (evBin opSub (ki 1) (evSt (evBin opMul (ki 2) (evVar 2))))) (egName 2)]) (esSeq []),
  esIf (etAnd (evCmp (cmpM .GtE) (evVar 2) (evSt (evBin opPow (ki 10) (ki 18)))) (evCmp (cmpM .Lt) (evVar 1) (evSt (evBlt lenM [evVar 0])))) (esSeq [esRet (evFz (evVar 2))]) (esSeq []),
  esRet (evFz (evSt (evBin opMod (evSt (evBlt intM [evSt (evBin opAdd (evSt (evBin opMul (evSt (evBlt intM [evSt (evBin opAdd (evSt (evBin opAdd (evSt (evBin opMul (evVar 2) (ki 48271))) (evSt (evBin opMul (evVar 1) (ki 69621))))) (ki 12345))])) (ki 40692))) (ki 7))])) (ki 2147483399))))]
def bDraw (φr : List MV → Mh → Option (MV × Mh)) : ES := esSeq [
  esIf (evCmp (cmpM .Eq) (evSt (evBin ixM (evVar 0) (ki 1))) (ki 0))
    (esSeq [esAsg (evCall φr [evFz (evVar 1), evFz (evSt (evBin ixM (evVar 0) (ki 0)))]) (egSub (evVar 0) (ki 1)),
      esAsg (evSt (evBin opAdd (evSt (evBin ixM (evVar 0) (ki 0))) (ki 1))) (egSub (evVar 0) (ki 0))]) (esSeq []),
  esAsg (evSt (evBin opMod (evSt (evBlt intM [evSt (evBin ixM (evVar 0) (ki 1))])) (evVar 2))) (egName 3),
  esAsg (evSt (evBin opDiv (evSt (evBin ixM (evVar 0) (ki 1))) (evVar 2))) (egSub (evVar 0) (ki 1)),
  esRet (evFz (evVar 3))]

/-! ### steps -/
theorem seq_cons {s : ES} {r : List ES} {env e1 : Me} {hp h1 : Mh} (h : s env hp = some (.nx, e1, h1)) : esSeq (s :: r) env hp = esSeq r e1 h1 := by
  show (s env hp).bind _ = _
  rw [h]
  rfl
theorem seq_rt {s : ES} {r : List ES} {env e1 : Me} {hp h1 : Mh} {x : MV} (h : s env hp = some (.rt x, e1, h1)) : esSeq (s :: r) env hp = some (.rt x, e1, h1) := by
  show (s env hp).bind _ = _
  rw [h]
  rfl
theorem asg_run {f : Ev} {g : Eg} {env e1 : Me} {hp h1 h2 : Mh} {x : MV} (h : f env hp = some (x, h1)) (hg : g x env h1 = some (e1, h2)) : esAsg f g env hp = some (.nx, e1, h2) := by
  show (f env hp).bind _ = _
  rw [h]
  show (g x env h1).bind _ = _
  rw [hg]
  rfl
theorem if_ok {u : Et} {a b : ES} {env : Me} {hp h1 : Mh} {c : Bool} (h : u env hp = some (c, h1)) : esIf u a b env hp = if c = true then a env h1 else b env h1 := by
  show (u env hp).bind _ = _
  rw [h]
  rfl
theorem bin_ok {op : MV → MV → Mh → Option R} {f g : Ev} {env : Me} {hp h1 h2 : Mh} {x y z : MV} (hf : f env hp = some (x, h1)) (hg : g env h1 = some (y, h2)) (ho : op x y h2 = some (.v z)) : evSt (evBin op f g) env hp = some (z, h2) := by
  show ((f env hp).bind fun p => (g env p.2).bind fun q => (op p.1 q.1 q.2).bind fun r => some (r, q.2)).bind _ = _
  rw [hf]
  show ((g env h1).bind fun q => (op x q.1 q.2).bind fun r => some (r, q.2)).bind _ = _
  rw [hg]
  show ((op x y h2).bind fun r => some (r, h2)).bind _ = _
  rw [ho]
  rfl
theorem cmp_ok {op : MV → MV → Mh → Option Bool} {f g : Ev} {env : Me} {hp h1 h2 : Mh} {x y : MV} {b : Bool} (hf : f env hp = some (x, h1)) (hg : g env h1 = some (y, h2)) (ho : op x y h2 = some b) : evCmp op f g env hp = some (b, h2) := by
  show (f env hp).bind _ = _
  rw [hf]
  show (g env h1).bind _ = _
  rw [hg]
  show (op x y h2).bind _ = _
  rw [ho]
  rfl
theorem blt1_ok {op : List MV → Mh → Option R} {f : Ev} {env : Me} {hp h1 : Mh} {x z : MV} (hf : f env hp = some (x, h1)) (ho : op [x] h1 = some (.v z)) : evSt (evBlt op [f]) env hp = some (z, h1) := by
  show (((f env hp).bind fun p => (evAll [] env p.2).bind fun q => some (p.1 :: q.1, q.2)).bind fun p => (op p.1 p.2).bind fun r => some (r, p.2)).bind _ = _
  rw [hf]
  show ((op [x] h1).bind fun r => some (r, h1)).bind _ = _
  rw [ho]
  rfl
theorem fz_ok {f : Ev} {env : Me} {hp h1 : Mh} {d : PyData} (hf : f env hp = some (.d d, h1)) : evFz f env hp = some (.d d, h1) := by
  show (f env hp).bind _ = _
  rw [hf]
  rfl
theorem var_ok {i : Nat} {env : Me} {hp : Mh} {x : MV} (h : env[i]? = some (some x)) : evVar i env hp = some (x, hp) := by
  unfold evVar
  rw [h]
theorem ret_ok {f : Ev} {env : Me} {hp h1 : Mh} {x : MV} (hf : f env hp = some (x, h1)) : esRet f env hp = some (.rt x, env, h1) := by
  show (f env hp).bind _ = _
  rw [hf]
  rfl
theorem call2_ok {φ : List MV → Mh → Option (MV × Mh)} {f g : Ev} {env : Me} {hp h1 h2 : Mh} {x y : MV} {r : Option (MV × Mh)} (hf : f env hp = some (x, h1)) (hg : g env h1 = some (y, h2)) (ho : φ [x, y] h2 = r) : evCall φ [f, g] env hp = r := by
  show ((f env hp).bind fun p => ((g env p.2).bind fun q => (evAll [] env q.2).bind fun z => some (q.1 :: z.1, z.2)).bind fun q => some (p.1 :: q.1, q.2)).bind (fun p => φ p.1 p.2) = _
  rw [hf]
  show (((g env h1).bind fun q => (evAll [] env q.2).bind fun z => some (q.1 :: z.1, z.2)).bind fun q => some (x :: q.1, q.2)).bind (fun p => φ p.1 p.2) = _
  rw [hg]
  exact ho
theorem call3_ok {φ : List MV → Mh → Option (MV × Mh)} {f g k : Ev} {env : Me} {hp h1 h2 h3 : Mh} {x y z : MV} {r : Option (MV × Mh)} (hf : f env hp = some (x, h1)) (hg : g env h1 = some (y, h2)) (hk : k env h2 = some (z, h3)) (ho : φ [x, y, z] h3 = r) : evCall φ [f, g, k] env hp = r := by
  show ((f env hp).bind fun p => ((g env p.2).bind fun q => ((k env q.2).bind fun w => (evAll [] env w.2).bind fun u => some (w.1 :: u.1, u.2)).bind fun z => some (q.1 :: z.1, z.2)).bind fun q => some (p.1 :: q.1, q.2)).bind (fun p => φ p.1 p.2) = _
  rw [hf]
  show (((g env h1).bind fun q => ((k env q.2).bind fun w => (evAll [] env w.2).bind fun u => some (w.1 :: u.1, u.2)).bind fun z => some (q.1 :: z.1, z.2)).bind fun q => some (x :: q.1, q.2)).bind (fun p => φ p.1 p.2) = _
  rw [hg]
  show ((((k env h2).bind fun w => (evAll [] env w.2).bind fun u => some (w.1 :: u.1, u.2)).bind fun z => some (y :: z.1, z.2)).bind fun q => some (x :: q.1, q.2)).bind (fun p => φ p.1 p.2) = _
  rw [hk]
  exact ho

/-! ### refill -/
theorem ixN_fmod {n : Nat} {k : Int} (h : 0 < n) : ∃ j, ixN n (k.fmod n) = some j ∧ j < n := by
  have h0 : 0 ≤ k.fmod n := Int.fmod_nonneg_of_pos k (by omega)
  have h1 : k.fmod n < n := Int.fmod_lt_of_pos k (by omega)
  unfold ixN
  refine ⟨(k.fmod n).toNat, ?_, by omega⟩
  rw [if_pos h0, if_pos h1]
theorem mulOk_r (a : Int) {b : Int} (h : b.natAbs < 2 ^ 64) : mulOk a b = true := by
  unfold mulOk
  simp [h]
theorem mulOk_l {a : Int} (b : Int) (h : a.natAbs < 2 ^ 64) : mulOk a b = true := by
  unfold mulOk
  simp [h]
theorem mul_r (a : Int) {b : Int} (hp : Mh) (h : b.natAbs < 2 ^ 64) : opMul (.d (.int a)) (.d (.int b)) hp = some (.v (.d (.int (a * b)))) := by
  show (if mulOk a b then iv (a * b) else none) = _
  rw [if_pos (mulOk_r a h)]
  rfl
theorem mul_l {a : Int} (b : Int) (hp : Mh) (h : a.natAbs < 2 ^ 64) : opMul (.d (.int a)) (.d (.int b)) hp = some (.v (.d (.int (a * b)))) := by
  show (if mulOk a b then iv (a * b) else none) = _
  rw [if_pos (mulOk_l b h)]
  rfl
theorem pow_10 (hp : Mh) : opPow (.d (.int 10)) (.d (.int 18)) hp = some (.v (.d (.int (10 ^ 18)))) := by
  have h : (0 : Int) ≤ 18 ∧ (18 : Int) ≤ 1000000 ∧ (10 : Int).natAbs < 2 ^ 64 := by decide
  show (if (0 : Int) ≤ 18 ∧ (18 : Int) ≤ 1000000 ∧ (10 : Int).natAbs < 2 ^ 64 then iv ((10 : Int) ^ (18 : Int).toNat) else none) = _
  rw [if_pos h]
  rfl
theorem refill_run (ns : List Int) (k : Int) (hp : Mh) : ∃ v : Int, runBody bRefill 3 [.d (.list (ns.map .int)), .d (.int k)] hp = some (.d (.int v), hp) := by
  suffices h : ∃ (v : Int) (env : Me), bRefill [some (.d (.list (ns.map .int))), some (.d (.int k)), none] hp = some (.rt (.d (.int v)), env, hp) by
    obtain ⟨v, env, h⟩ := h
    refine ⟨v, ?_⟩
    unfold runBody
    show (match bRefill [some (.d (.list (ns.map .int))), some (.d (.int k)), none] hp with | some (.nx, _, hp') => some (MV.d .none, hp'.take hp.length) | some (.rt (.d x), _, hp') => some (.d x, hp'.take hp.length) | some (.rt (.c n), _, hp') => some (.c n, hp') | _ => none) = _
    rw [h]
    show some (MV.d (.int v), hp.take hp.length) = _
    rw [List.take_length]
  have tail : ∀ c : Int, ∃ (v : Int) (env : Me), esSeq [esIf (evCmp (cmpM .Lt) (evVar 2) (ki 0)) (esSeq [esAsg (evSt (evBin opSub (ki 1) (evSt (evBin opMul (ki 2) (evVar 2))))) (egName 2)]) (esSeq []),
      esIf (etAnd (evCmp (cmpM .GtE) (evVar 2) (evSt (evBin opPow (ki 10) (ki 18)))) (evCmp (cmpM .Lt) (evVar 1) (evSt (evBlt lenM [evVar 0])))) (esSeq [esRet (evFz (evVar 2))]) (esSeq []),
      esRet (evFz (evSt (evBin opMod (evSt (evBlt intM [evSt (evBin opAdd (evSt (evBin opMul (evSt (evBlt intM [evSt (evBin opAdd (evSt (evBin opAdd (evSt (evBin opMul (evVar 2) (ki 48271))) (evSt (evBin opMul (evVar 1) (ki 69621))))) (ki 12345))])) (ki 40692))) (ki 7))])) (ki 2147483399))))]
      [some (.d (.list (ns.map .int))), some (.d (.int k)), some (.d (.int c))] hp = some (.rt (.d (.int v)), env, hp) := by
    intro c
    have tail2 : ∀ c : Int, ∃ (v : Int) (env : Me), esSeq [esIf (etAnd (evCmp (cmpM .GtE) (evVar 2) (evSt (evBin opPow (ki 10) (ki 18)))) (evCmp (cmpM .Lt) (evVar 1) (evSt (evBlt lenM [evVar 0])))) (esSeq [esRet (evFz (evVar 2))]) (esSeq []),
        esRet (evFz (evSt (evBin opMod (evSt (evBlt intM [evSt (evBin opAdd (evSt (evBin opMul (evSt (evBlt intM [evSt (evBin opAdd (evSt (evBin opAdd (evSt (evBin opMul (evVar 2) (ki 48271))) (evSt (evBin opMul (evVar 1) (ki 69621))))) (ki 12345))])) (ki 40692))) (ki 7))])) (ki 2147483399))))]
        [some (.d (.list (ns.map .int))), some (.d (.int k)), some (.d (.int c))] hp = some (.rt (.d (.int v)), env, hp) := by
      intro c
      have last : esRet (evFz (evSt (evBin opMod (evSt (evBlt intM [evSt (evBin opAdd (evSt (evBin opMul (evSt (evBlt intM [evSt (evBin opAdd (evSt (evBin opAdd (evSt (evBin opMul (evVar 2) (ki 48271))) (evSt (evBin opMul (evVar 1) (ki 69621))))) (ki 12345))])) (ki 40692))) (ki 7))])) (ki 2147483399))))
        [some (.d (.list (ns.map .int))), some (.d (.int k)), some (.d (.int c))] hp = some (.rt (.d (.int (((c * 48271 + k * 69621 + 12345) * 40692 + 7).fmod 2147483399))), [some (.d (.list (ns.map .int))), some (.d (.int k)), some (.d (.int c))], hp) := by
        refine ret_ok (fz_ok (bin_ok (blt1_ok (bin_ok (bin_ok (blt1_ok (bin_ok (bin_ok (bin_ok (var_ok rfl) rfl (mul_r c hp (by decide))) (bin_ok (var_ok rfl) rfl (mul_r k hp (by decide))) rfl) rfl rfl) rfl) rfl (mul_r _ hp (by decide))) rfl rfl) rfl) rfl rfl))
      have u : ∃ b, etAnd (evCmp (cmpM .GtE) (evVar 2) (evSt (evBin opPow (ki 10) (ki 18)))) (evCmp (cmpM .Lt) (evVar 1) (evSt (evBlt lenM [evVar 0]))) [some (.d (.list (ns.map .int))), some (.d (.int k)), some (.d (.int c))] hp = some (b, hp) := by
        have a1 : evCmp (cmpM .GtE) (evVar 2) (evSt (evBin opPow (ki 10) (ki 18))) [some (.d (.list (ns.map .int))), some (.d (.int k)), some (.d (.int c))] hp = some (decide ((10 ^ 18 : Int) ≤ c), hp) :=
          cmp_ok (var_ok rfl) (bin_ok rfl rfl (pow_10 hp)) rfl
        have a2 : evCmp (cmpM .Lt) (evVar 1) (evSt (evBlt lenM [evVar 0])) [some (.d (.list (ns.map .int))), some (.d (.int k)), some (.d (.int c))] hp = some (decide (k < (((ns.map PyData.int).map MV.d).length : Int)), hp) :=
          cmp_ok (var_ok rfl) (blt1_ok (var_ok rfl) rfl) rfl
        by_cases hc : (10 ^ 18 : Int) ≤ c
        · refine ⟨decide (k < (((ns.map PyData.int).map MV.d).length : Int)), ?_⟩
          show Option.bind _ _ = _
          rw [a1]
          show (if decide ((10 ^ 18 : Int) ≤ c) = true then _ else _) = _
          rw [if_pos (by simpa using hc)]
          exact a2
        · refine ⟨false, ?_⟩
          show Option.bind _ _ = _
          rw [a1]
          show (if decide ((10 ^ 18 : Int) ≤ c) = true then _ else _) = _
          rw [if_neg (by simpa using hc)]
      obtain ⟨b, u⟩ := u
      cases b with
      | true =>
        refine ⟨c, _, seq_rt (e1 := [some (.d (.list (ns.map .int))), some (.d (.int k)), some (.d (.int c))]) (h1 := hp) ?_⟩
        rw [if_ok u]
        rfl
      | false =>
        refine ⟨_, _, (seq_cons (e1 := [some (.d (.list (ns.map .int))), some (.d (.int k)), some (.d (.int c))]) (h1 := hp) ?_).trans (seq_rt last)⟩
        rw [if_ok u]
        rfl
    have u : evCmp (cmpM .Lt) (evVar 2) (ki 0) [some (.d (.list (ns.map .int))), some (.d (.int k)), some (.d (.int c))] hp = some (decide (c < 0), hp) := cmp_ok (var_ok rfl) rfl rfl
    by_cases hc : c < 0
    · obtain ⟨v, env, q⟩ := tail2 (1 - 2 * c)
      refine ⟨v, env, (seq_cons (e1 := [some (.d (.list (ns.map .int))), some (.d (.int k)), some (.d (.int (1 - 2 * c)))]) (h1 := hp) ?_).trans q⟩
      rw [if_ok u, if_pos (by simpa using hc)]
      exact (seq_cons (asg_run (bin_ok rfl (bin_ok rfl (var_ok rfl) (mul_l (a := 2) c hp (by decide))) rfl) rfl)).trans rfl
    · obtain ⟨v, env, q⟩ := tail2 c
      refine ⟨v, env, (seq_cons (e1 := [some (.d (.list (ns.map .int))), some (.d (.int k)), some (.d (.int c))]) (h1 := hp) ?_).trans q⟩
      rw [if_ok u, if_neg (by simpa using hc)]
      rfl
  unfold bRefill
  have u : etTru (evVar 0) [some (.d (.list (ns.map .int))), some (.d (.int k)), some (.d (.int 0))] hp = some (!((ns.map PyData.int).map MV.d).isEmpty, hp) := rfl
  cases ns with
  | nil =>
    obtain ⟨v, env, q⟩ := tail 0
    exact ⟨v, env, (seq_cons (e1 := [some (.d (.list ([].map .int))), some (.d (.int k)), some (.d (.int 0))]) (h1 := hp) rfl).trans ((seq_cons (e1 := [some (.d (.list ([].map .int))), some (.d (.int k)), some (.d (.int 0))]) (h1 := hp) rfl).trans q)⟩
  | cons n r =>
    obtain ⟨j, hj, hl⟩ := ixN_fmod (n := (((n :: r).map PyData.int).map MV.d).length) (k := k) (by simp)
    have hl2 : j < (n :: r).length := by simpa using hl
    have hg : (((n :: r).map PyData.int).map MV.d)[j]? = some (.d (.int ((n :: r)[j]))) := by
      rw [List.getElem?_map, List.getElem?_map, List.getElem?_eq_getElem hl2]
      rfl
    obtain ⟨v, env, q⟩ := tail ((n :: r)[j])
    refine ⟨v, env, (seq_cons (e1 := [some (.d (.list ((n :: r).map .int))), some (.d (.int k)), some (.d (.int 0))]) (h1 := hp) rfl).trans ((seq_cons (e1 := [some (.d (.list ((n :: r).map .int))), some (.d (.int k)), some (.d (.int ((n :: r)[j])))]) (h1 := hp) ?_).trans q)⟩
    rw [if_ok u]
    refine (seq_cons (asg_run (bin_ok (var_ok rfl) (bin_ok (z := .d (.int (k.fmod (((n :: r).map PyData.int).map MV.d).length))) (var_ok rfl) (blt1_ok (var_ok rfl) rfl) ?_) ?_) rfl)).trans rfl
    · show (if ((((n :: r).map PyData.int).map MV.d).length : Int) = 0 then none else iv _) = _
      rw [if_neg (by simp; omega)]
      rfl
    · show ixL (.d (.list ((n :: r).map PyData.int))) _ hp = _
      unfold ixL
      show (match atI (((n :: r).map PyData.int).map MV.d) _ with | some x => some (R.v x) | none => none) = _
      unfold atI
      rw [hj]
      show (match (((n :: r).map PyData.int).map MV.d)[j]? with | some x => some (R.v x) | none => none) = _
      rw [hg]

/-! ### draw -/
/-- the state's cell -/
def St2 (hp : Mh) (j : Nat) (k c : Int) : Prop := hp[j]? = some (.lst [.d (.int k), .d (.int c)])
theorem St2.set {hp : Mh} {j : Nat} {k c : Int} (h : St2 hp j k c) (k' c' : Int) : St2 (hp.set j (.lst [.d (.int k'), .d (.int c')])) j k' c' := by
  unfold St2
  rw [List.getElem?_set_self (List.getElem?_eq_some_iff.mp h).1]
theorem St2.ix0 {hp : Mh} {j : Nat} {k c : Int} (h : St2 hp j k c) : ixM (.c j) (.d (.int 0)) hp = some (.v (.d (.int k))) := by
  show ixL (.c j) 0 hp = _
  unfold ixL
  have : seqOf (.c j) hp = some [.d (.int k), .d (.int c)] := by
    show (match hp[j]? with | some (.lst xs) => some xs | some (.frz (.list ds)) => some (ds.map MV.d) | _ => none) = _
    rw [h]
  rw [this]
  rfl
theorem St2.ix1 {hp : Mh} {j : Nat} {k c : Int} (h : St2 hp j k c) : ixM (.c j) (.d (.int 1)) hp = some (.v (.d (.int c))) := by
  show ixL (.c j) 1 hp = _
  unfold ixL
  have : seqOf (.c j) hp = some [.d (.int k), .d (.int c)] := by
    show (match hp[j]? with | some (.lst xs) => some xs | some (.frz (.list ds)) => some (ds.map MV.d) | _ => none) = _
    rw [h]
  rw [this]
  rfl
theorem St2.set0 {hp : Mh} {j : Nat} {k c : Int} (h : St2 hp j k c) (k' : Int) : setM (.c j) (.d (.int 0)) (.d (.int k')) hp = some (hp.set j (.lst [.d (.int k'), .d (.int c)])) := by
  unfold setM
  simp only
  rw [h]
  rfl
theorem St2.set1 {hp : Mh} {j : Nat} {k c : Int} (h : St2 hp j k c) (c' : Int) : setM (.c j) (.d (.int 1)) (.d (.int c')) hp = some (hp.set j (.lst [.d (.int k), .d (.int c')])) := by
  unfold setM
  simp only
  rw [h]
  rfl
theorem sub_run {f g : Ev} {x o i : MV} {env : Me} {hp h1 h2 h3 : Mh} (hf : f env hp = some (o, h1)) (hg : g env h1 = some (i, h2)) (hs : setM o i x h2 = some h3) : egSub f g x env hp = some (env, h3) := by
  show (f env hp).bind _ = _
  rw [hf]
  show (g env h1).bind _ = _
  rw [hg]
  show (setM o i x h2).bind _ = _
  rw [hs]
  rfl
theorem eq_int (a b : Int) (hp : Mh) : cmpM .Eq (.d (.int a)) (.d (.int b)) hp = some (decide (a = b)) := by
  show (if dOk (.int a) || dOk (.int b) then some (PyData.eqv (.int a) (.int b)) else none) = _
  have h : dOk (.int a) = true := rfl
  rw [h]
  show some (PyData.eqv (.int a) (.int b)) = _
  congr 1
theorem draw_run {φr : List MV → Mh → Option (MV × Mh)} {script : PyData} (Hφ : ∀ (k : Int) (hp : Mh), ∃ v : Int, φr [.d script, .d (.int k)] hp = some (.d (.int v), hp)) {hp : Mh} {j : Nat} {k c : Int} (hj : St2 hp j k c) {size : Int} (h0 : 0 < size) (h1 : size.natAbs.log2 < 9000) :
    ∃ d k' c' : Int, 0 ≤ d ∧ d < size ∧ runBody (bDraw φr) 4 [.c j, .d script, .d (.int size)] hp = some (.d (.int d), hp.set j (.lst [.d (.int k'), .d (.int c')])) := by
  suffices h : ∃ (d k' c' : Int) (env : Me), 0 ≤ d ∧ d < size ∧ bDraw φr [some (.c j), some (.d script), some (.d (.int size)), none] hp = some (.rt (.d (.int d)), env, hp.set j (.lst [.d (.int k'), .d (.int c')])) by
    obtain ⟨d, k', c', env, q1, q2, h⟩ := h
    refine ⟨d, k', c', q1, q2, ?_⟩
    unfold runBody
    show (match bDraw φr [some (.c j), some (.d script), some (.d (.int size)), none] hp with | some (.nx, _, hp') => some (MV.d .none, hp'.take hp.length) | some (.rt (.d x), _, hp') => some (.d x, hp'.take hp.length) | some (.rt (.c n), _, hp') => some (.c n, hp') | _ => none) = _
    rw [h]
    show some (MV.d (.int d), (hp.set j _).take hp.length) = _
    rw [List.take_of_length_le (by simp)]
  have tail : ∀ {hp : Mh} {k c : Int}, St2 hp j k c → esSeq [esAsg (evSt (evBin opMod (evSt (evBlt intM [evSt (evBin ixM (evVar 0) (ki 1))])) (evVar 2))) (egName 3),
      esAsg (evSt (evBin opDiv (evSt (evBin ixM (evVar 0) (ki 1))) (evVar 2))) (egSub (evVar 0) (ki 1)),
      esRet (evFz (evVar 3))] [some (.c j), some (.d script), some (.d (.int size)), none] hp = some (.rt (.d (.int (c.fmod size))), [some (.c j), some (.d script), some (.d (.int size)), some (.d (.int (c.fmod size)))], hp.set j (.lst [.d (.int k), .d (.int (c.fdiv size))])) := by
    intro hp k c hj
    refine (seq_cons (asg_run (bin_ok (z := .d (.int (c.fmod size))) (blt1_ok (bin_ok (var_ok rfl) rfl hj.ix1) rfl) (var_ok rfl) ?_) rfl)).trans ((seq_cons (asg_run (bin_ok (z := .d (.int (c.fdiv size))) (bin_ok (var_ok rfl) rfl hj.ix1) (var_ok rfl) ?_) (sub_run (var_ok rfl) rfl (hj.set1 _)))).trans (seq_rt (ret_ok (fz_ok (var_ok rfl)))))
    · show (if size = 0 then none else iv _) = _
      rw [if_neg (by omega)]
      rfl
    · show (if divOk size then iv _ else none) = _
      rw [if_pos (by unfold divOk; simp only [bne_iff_ne, ne_eq, Bool.and_eq_true, decide_eq_true_eq]; exact ⟨by omega, h1⟩)]
      rfl
  have d0 : ∀ c : Int, 0 ≤ c.fmod size ∧ c.fmod size < size := fun c => ⟨Int.fmod_nonneg_of_pos c h0, Int.fmod_lt_of_pos c h0⟩
  have u : evCmp (cmpM .Eq) (evSt (evBin ixM (evVar 0) (ki 1))) (ki 0) [some (.c j), some (.d script), some (.d (.int size)), none] hp = some (decide (c = 0), hp) := cmp_ok (bin_ok (var_ok rfl) rfl hj.ix1) rfl (eq_int _ _ _)
  by_cases hc : c = 0
  · obtain ⟨v, hv⟩ := Hφ k hp
    have hj2 := hj.set k v
    have hj3 := hj2.set (k + 1) v
    refine ⟨v.fmod size, k + 1, v.fdiv size, [some (.c j), some (.d script), some (.d (.int size)), some (.d (.int (v.fmod size)))], (d0 v).1, (d0 v).2, (seq_cons (e1 := [some (.c j), some (.d script), some (.d (.int size)), none]) (h1 := (hp.set j (.lst [.d (.int k), .d (.int v)])).set j (.lst [.d (.int (k + 1)), .d (.int v)])) ?_).trans ((tail hj3).trans ?_)⟩
    · rw [if_ok u, if_pos (by simpa using hc)]
      refine (seq_cons (asg_run (call2_ok (fz_ok (var_ok rfl)) (fz_ok (bin_ok (var_ok rfl) rfl hj.ix0)) hv) (sub_run (var_ok rfl) rfl (hj.set1 v)))).trans ((seq_cons (asg_run (bin_ok (bin_ok (var_ok rfl) rfl hj2.ix0) rfl rfl) (sub_run (var_ok rfl) rfl (hj2.set0 (k + 1))))).trans rfl)
    · simp only [List.set_set]
  · refine ⟨c.fmod size, k, c.fdiv size, [some (.c j), some (.d script), some (.d (.int size)), some (.d (.int (c.fmod size)))], (d0 c).1, (d0 c).2, (seq_cons (e1 := [some (.c j), some (.d script), some (.d (.int size)), none]) (h1 := hp) ?_).trans (tail hj)⟩
    rw [if_ok u, if_neg (by simpa using hc)]
    rfl
end L2.MP
/-! MiniPy R: a law's run beside a closed one. -/
namespace L2.MP
open PySem PySem.Spec PyProof.Rows

/-- a mark -/
def tk (i : Int) : MV := .k [(.int i, .none)]
/-- the run's names and cells, seen from a closed run's: slot 0 the script, slot 1 the state, a cell of its own ahead -/
structure At (sc : PyData) (env : Me) (hp : Mh) (e : Me) (h : Mh) : Prop where
  ex : ∃ t : Tr, Ov t e env ∧ hp = t.h h ∧ t.τ [(.int 0, .none)] = .d sc ∧ t.τ [(.int 1, .none)] = .c 0 ∧ ∃ k c, St2 t.pre 0 k c
  m0 : e[0]? = some (some (tk 0))
  m1 : e[1]? = some (some (tk 1))
def marked (e : Me) : Bool := match e with
  | some (.k [(.int 0, .none)]) :: some (.k [(.int 1, .none)]) :: _ => true
  | _ => false
theorem marked_ok {e : Me} (h : marked e = true) : e[0]? = some (some (tk 0)) ∧ e[1]? = some (some (tk 1)) := by
  unfold marked at h
  split at h
  · exact ⟨rfl, rfl⟩
  · cases h
/-- a closed run's end -/
def okNx (r : Option (Out × Me × Mh)) (k : Me → Mh → Bool) : Bool := match r with
  | some (.nx, e, h) => marked e && k e h
  | _ => false
theorem okNx_ok {r : Option (Out × Me × Mh)} {k : Me → Mh → Bool} (h : okNx r k = true) : ∃ e hp, r = some (.nx, e, hp) ∧ marked e = true ∧ k e hp = true := by
  unfold okNx at h
  split at h
  · rw [Bool.and_eq_true] at h
    exact ⟨_, _, rfl, h.1, h.2⟩
  · cases h
section
variable {sc : PyData} {env e : Me} {hp h : Mh}
theorem At.run (A : At sc env hp e h) {f : ES} (Hf : ∀ t, FS t f) {k : Me → Mh → Bool} (q : okNx (f e h) k = true) : ∃ env1 hp1 e1 h1, f env hp = some (.nx, env1, hp1) ∧ At sc env1 hp1 e1 h1 ∧ k e1 h1 = true := by
  obtain ⟨e1, h1, q1, q2, q3⟩ := okNx_ok q
  obtain ⟨t, O, rfl, T0, T1, S⟩ := A.ex
  obtain ⟨env1, z1, O1⟩ := Hf t _ _ _ _ _ _ O q1
  exact ⟨env1, _, e1, h1, z1, ⟨⟨t, O1, rfl, T0, T1, S⟩, (marked_ok q2).1, (marked_ok q2).2⟩, q3⟩
theorem At.v0 (A : At sc env hp e h) : env[0]? = some (some (.d sc)) := by
  obtain ⟨t, O, _, T0, _, _⟩ := A.ex
  rw [O.2 0 _ A.m0, ← T0]
  rfl
theorem At.v1 (A : At sc env hp e h) : env[1]? = some (some (.c 0)) := by
  obtain ⟨t, O, _, _, T1, _⟩ := A.ex
  rw [O.2 1 _ A.m1, ← T1]
  rfl
theorem At.st (A : At sc env hp e h) : ∃ k c, St2 hp 0 k c := by
  obtain ⟨t, O, rfl, _, _, k, c, S⟩ := A.ex
  refine ⟨k, c, ?_⟩
  have hl := (List.getElem?_eq_some_iff.mp S).1
  unfold St2 Tr.h
  rw [List.getElem?_append_left hl]
  exact S
theorem At.put (A : At sc env hp e h) (k c : Int) : At sc env (hp.set 0 (.lst [.d (.int k), .d (.int c)])) e h := by
  obtain ⟨t, O, rfl, T0, T1, k0, c0, S⟩ := A.ex
  have hl := (List.getElem?_eq_some_iff.mp S).1
  have e1 : ({ t with pre := t.pre.set 0 (.lst [.d (.int k), .d (.int c)]) } : Tr).v = t.v := by
    funext x
    cases x <;> simp [Tr.v]
  have e2 : ({ t with pre := t.pre.set 0 (.lst [.d (.int k), .d (.int c)]) } : Tr).c = t.c := by
    funext x
    cases x <;> simp [Tr.c, e1]
  refine ⟨⟨{ t with pre := t.pre.set 0 (.lst [.d (.int k), .d (.int c)]) }, ⟨O.1, fun i x q => ?_⟩, ?_, T0, T1, k, c, ?_⟩, A.m0, A.m1⟩
  · rw [e1]
    exact O.2 i x q
  · unfold Tr.h
    rw [e2]
    show _ = (t.pre.set 0 _) ++ _
    rw [List.set_append_left _ _ hl]
  · unfold St2
    show (t.pre.set 0 _)[0]? = _
    rw [List.getElem?_set_self hl]
theorem At.set (A : At sc env hp e h) (i : Nat) (hi : 2 ≤ i) (x : PyData) : At sc (env.set i (some (.d x))) hp (e.set i (some (.d x))) h := by
  obtain ⟨t, O, h1, h2⟩ := A.ex
  refine ⟨⟨t, O.set i (.d x), h1, h2⟩, ?_, ?_⟩
  · rw [List.getElem?_set_ne (by omega)]; exact A.m0
  · rw [List.getElem?_set_ne (by omega)]; exact A.m1
/-- the closed run may begin anew -/
def base0 (n : Nat) : Me := some (tk 0) :: some (tk 1) :: List.replicate n none
theorem At.reset (A : At sc env hp e h) (n : Nat) (hn : e.length = n + 2) : At sc env hp (base0 n) [] := by
  obtain ⟨k, c, S⟩ := A.st
  have hl : env.length = n + 2 := by
    obtain ⟨t, O, _⟩ := A.ex
    rw [O.1, hn]
  refine ⟨⟨⟨hp, fun q => match q with | [(.int i, _)] => if i = 0 then .d sc else .c 0 | _ => .c 0⟩, ⟨by rw [hl]; simp [base0], fun i x q => ?_⟩, by simp [Tr.h], rfl, rfl, k, c, S⟩, rfl, rfl⟩
  match i, q with
  | 0, q => cases q; exact A.v0
  | 1, q => cases q; exact A.v1
  | i + 2, q =>
    have q : (List.replicate n (none : Option MV))[i]? = some (some x) := q
    rw [List.getElem?_replicate] at q
    split at q <;> cases q
theorem At.len (A : At sc env hp e h) : env.length = e.length := by
  obtain ⟨t, O, _⟩ := A.ex
  exact O.1
/-- the call of a draw -/
abbrev dr (φd : List MV → Mh → Option (MV × Mh)) (size : Int) : Ev := evCall φd [evVar 1, evFz (evVar 0), evFz (ki size)]
structure Draws (sc : PyData) (φd : List MV → Mh → Option (MV × Mh)) : Prop where
  run : ∀ {hp : Mh} {j : Nat} {k c : Int}, St2 hp j k c → ∀ {size : Int}, 0 < size → size.natAbs.log2 < 9000 → ∃ d k' c' : Int, 0 ≤ d ∧ d < size ∧ φd [.c j, .d sc, .d (.int size)] hp = some (.d (.int d), hp.set j (.lst [.d (.int k'), .d (.int c')]))
theorem At.draw {φd : List MV → Mh → Option (MV × Mh)} (D : Draws sc φd) (A : At sc env hp e h) {size : Int} (h0 : 0 < size) (h1 : size.natAbs.log2 < 9000) : ∃ (d : Int) (hp1 : Mh), 0 ≤ d ∧ d < size ∧ dr φd size env hp = some (.d (.int d), hp1) ∧ At sc env hp1 e h := by
  obtain ⟨k, c, S⟩ := A.st
  obtain ⟨d, k', c', q1, q2, q3⟩ := D.run S h0 h1
  refine ⟨d, _, q1, q2, call3_ok (var_ok A.v1) (fz_ok (var_ok A.v0)) (fz_ok rfl) q3, A.put k' c'⟩
theorem par2_run {f g : Ev} {gs : List Eg} {env e1 : Me} {hp h1 h2 h3 : Mh} {x y : MV} (hf : f env hp = some (x, h1)) (hg : g env h1 = some (y, h2)) (hs : egAll gs [x, y] env h2 = some (e1, h3)) : esPar [f, g] gs env hp = some (.nx, e1, h3) := by
  show ((f env hp).bind fun p => ((g env p.2).bind fun q => (evAll [] env q.2).bind fun z => some (q.1 :: z.1, z.2)).bind fun q => some (p.1 :: q.1, q.2)).bind (fun p => (egAll gs p.1 env p.2).bind fun q => some (Out.nx, q.1, q.2)) = _
  rw [hf]
  show (((g env h1).bind fun q => (evAll [] env q.2).bind fun z => some (q.1 :: z.1, z.2)).bind fun q => some (x :: q.1, q.2)).bind (fun p => (egAll gs p.1 env p.2).bind fun q => some (Out.nx, q.1, q.2)) = _
  rw [hg]
  show ((egAll gs [x, y] env h2).bind fun q => some (Out.nx, q.1, q.2)) = _
  rw [hs]
  rfl
theorem par3_run {f g k : Ev} {gs : List Eg} {env e1 : Me} {hp h1 h2 h3 h4 : Mh} {x y z : MV} (hf : f env hp = some (x, h1)) (hg : g env h1 = some (y, h2)) (hk : k env h2 = some (z, h3)) (hs : egAll gs [x, y, z] env h3 = some (e1, h4)) : esPar [f, g, k] gs env hp = some (.nx, e1, h4) := by
  show ((f env hp).bind fun p => ((g env p.2).bind fun q => ((k env q.2).bind fun w => (evAll [] env w.2).bind fun u => some (w.1 :: u.1, u.2)).bind fun z => some (q.1 :: z.1, z.2)).bind fun q => some (p.1 :: q.1, q.2)).bind (fun p => (egAll gs p.1 env p.2).bind fun q => some (Out.nx, q.1, q.2)) = _
  rw [hf]
  show (((g env h1).bind fun q => ((k env q.2).bind fun w => (evAll [] env w.2).bind fun u => some (w.1 :: u.1, u.2)).bind fun z => some (q.1 :: z.1, z.2)).bind fun q => some (x :: q.1, q.2)).bind (fun p => (egAll gs p.1 env p.2).bind fun q => some (Out.nx, q.1, q.2)) = _
  rw [hg]
  show ((((k env h2).bind fun w => (evAll [] env w.2).bind fun u => some (w.1 :: u.1, u.2)).bind fun z => some (y :: z.1, z.2)).bind fun q => some (x :: q.1, q.2)).bind (fun p => (egAll gs p.1 env p.2).bind fun q => some (Out.nx, q.1, q.2)) = _
  rw [hk]
  show ((egAll gs [x, y, z] env h3).bind fun q => some (Out.nx, q.1, q.2)) = _
  rw [hs]
  rfl
theorem set2_run {i j : Nat} {x y : MV} {env : Me} {hp : Mh} : egAll [egName i, egName j] [x, y] env hp = some ((env.set i (some x)).set j (some y), hp) := rfl
theorem set3_run {i j k : Nat} {x y z : MV} {env : Me} {hp : Mh} : egAll [egName i, egName j, egName k] [x, y, z] env hp = some (((env.set i (some x)).set j (some y)).set k (some z), hp) := rfl
theorem seq_app : ∀ {a b : List ES} {env e1 : Me} {hp h1 : Mh}, esSeq a env hp = some (.nx, e1, h1) → esSeq (a ++ b) env hp = esSeq b e1 h1
  | [], b, env, e1, hp, h1, h => by cases h; rfl
  | s :: r, b, env, e1, hp, h1, h => by
    obtain ⟨p, q1, q2⟩ := Option.bind_eq_some_iff.mp h
    obtain ⟨o, e2, h2⟩ := p
    show (s env hp).bind _ = _
    rw [q1]
    cases o with
    | nx => exact seq_app q2
    | rt x => cases q2
    | bk => cases q2
    | ct => cases q2
/-- a loop whose body keeps what is needed -/
theorem for_inv {Inv : Me → Mh → Prop} {lo : Int} {n s : Nat} {b : ES} (H : ∀ (i : Int) env hp, Inv env hp → ∃ e1 h1, b (env.set s (some (.d (.int i)))) hp = some (.nx, e1, h1) ∧ Inv e1 h1) :
    ∀ k i env hp, i + k ≤ n → Inv env hp → ∃ e1 h1, goFor (.rng lo n) (egName s) b k i env hp = some (.nx, e1, h1) ∧ Inv e1 h1
  | 0, i, env, hp, _, I => ⟨env, hp, rfl, I⟩
  | k + 1, i, env, hp, hi, I => by
    obtain ⟨e1, h1, q1, I1⟩ := H (lo + (i : Int)) env hp I
    obtain ⟨e2, h2, q2, I2⟩ := for_inv (lo := lo) (n := n) H k (i + 1) e1 h1 (by omega) I1
    refine ⟨e2, h2, ?_, I2⟩
    show ((if i < n then some (MV.d (.int (lo + (i : Int)))) else none).bind fun x => (egName s x env hp).bind fun p => (b p.1 p.2).bind _) = _
    rw [if_pos (by omega)]
    show ((b (env.set s (some (.d (.int (lo + (i : Int)))))) hp).bind _) = _
    rw [q1]
    exact q2
theorem lt_cases {d : Int} {n : Nat} (h0 : 0 ≤ d) (h1 : d < n) : ∃ k ∈ List.range n, d = (k : Int) := ⟨d.toNat, List.mem_range.mpr (by omega), by omega⟩
/-- a def's run -/
theorem sem_run {T : List Fd} {gd : List (Str × MV)} {m n k : Nat} {d : Fd} {f : ES} {as : List MV} {hp : Mh} (hd : T[k]? = some d) (hl : as.length = d.ps.length) (hf : bodyOf T gd m (sem T gd m n) d = some f) : sem T gd m (n + 1) k as hp = runBody f d.N.length as hp := by
  show (match T[k]? with
    | some d => if as.length = d.ps.length then match bodyOf T gd m (sem T gd m n) d with
        | some f => runBody f d.N.length as hp
        | none => none
      else none
    | none => none) = _
  rw [hd]
  simp only
  rw [if_pos hl, hf]
end
end L2.MP
/-! MiniPy S: the same evaluators in a form that the kernel runs quickly. -/
namespace L2.MP
open PySem PySem.Spec PyProof.Rows

/-! ### values made plain first -/
section
variable {α : Type}
def fcN (n : Nat) (k : Nat → α) : α := match n with
  | 0 => k 0
  | m + 1 => k (Nat.succ m)
theorem fcN_eq (n : Nat) (k : Nat → α) : fcN n k = k n := by cases n <;> rfl
def fcI (i : Int) (k : Int → α) : α := match i with
  | .ofNat n => fcN n fun n => k (.ofNat n)
  | .negSucc n => fcN n fun n => k (.negSucc n)
theorem fcI_eq (i : Int) (k : Int → α) : fcI i k = k i := by
  cases i with
  | ofNat n => exact fcN_eq n fun n => k (.ofNat n)
  | negSucc n => exact fcN_eq n fun n => k (.negSucc n)
noncomputable def fcL {β : Type} (xs : List β) : (List β → α) → α := List.rec (motive := fun _ => (List β → α) → α) (fun k => k []) (fun x _ ih k => ih fun r => k (x :: r)) xs
theorem fcL_eq {β : Type} : ∀ (xs : List β) (k : List β → α), fcL xs k = k xs
  | [], _ => rfl
  | x :: r, k => fcL_eq r fun r => k (x :: r)
noncomputable def fcD (x : PyData) (k : PyData → α) : α := match x with
  | .none => k .none
  | .bool true => k (.bool true)
  | .bool false => k (.bool false)
  | .int i => fcI i fun i => k (.int i)
  | .str s => k (.str s)
  | .list ds => fcL ds fun ds => k (.list ds)
  | .tuple ds => fcL ds fun ds => k (.tuple ds)
  | .dict kv => k (.dict kv)
theorem fcD_eq (x : PyData) (k : PyData → α) : fcD x k = k x := by
  cases x with
  | bool b => cases b <;> rfl
  | int i => exact fcI_eq i fun i => k (.int i)
  | list ds => exact fcL_eq ds fun ds => k (.list ds)
  | tuple ds => exact fcL_eq ds fun ds => k (.tuple ds)
  | _ => rfl
noncomputable def fcV (x : MV) (k : MV → α) : α := match x with
  | .d y => fcD y fun y => k (.d y)
  | .c n => fcN n fun n => k (.c n)
  | .k t => k (.k t)
theorem fcV_eq (x : MV) (k : MV → α) : fcV x k = k x := by
  cases x with
  | d y => exact fcD_eq y fun y => k (.d y)
  | c n => exact fcN_eq n fun n => k (.c n)
  | k t => rfl
noncomputable def fcC (c : Cell) (k : Cell → α) : α := match c with
  | .lst xs => fcL xs fun xs => k (.lst xs)
  | .dct x => k (.dct x)
  | .frz x => fcD x fun x => k (.frz x)
theorem fcC_eq (c : Cell) (k : Cell → α) : fcC c k = k c := by
  cases c with
  | lst xs => exact fcL_eq xs fun xs => k (.lst xs)
  | dct x => rfl
  | frz x => exact fcD_eq x fun x => k (.frz x)
noncomputable def fcH (h : Mh) : (Mh → α) → α := List.rec (motive := fun _ => (Mh → α) → α) (fun k => k []) (fun c _ ih k => fcC c fun c => ih fun r => k (c :: r)) h
theorem fcH_eq : ∀ (h : Mh) (k : Mh → α), fcH h k = k h
  | [], _ => rfl
  | c :: r, k => (fcC_eq c fun c => fcH r fun r => k (c :: r)).trans (fcH_eq r fun r => k (c :: r))
noncomputable def getE (e : Me) : Nat → Option MV := List.rec (motive := fun _ => Nat → Option MV) (fun _ => none) (fun x _ ih i => Nat.rec (motive := fun _ => Option MV) x (fun i _ => ih i) i) e
theorem getE_eq : ∀ (e : Me) (i : Nat), getE e i = match e[i]? with | some (some x) => some x | _ => none
  | [], _ => by show none = _; simp
  | none :: _, 0 => rfl
  | some x :: _, 0 => rfl
  | y :: r, i + 1 => by
    show getE r i = _
    rw [getE_eq r i, List.getElem?_cons_succ]
noncomputable def setE (e : Me) : Nat → Option MV → (Me → α) → α := List.rec (motive := fun _ => Nat → Option MV → (Me → α) → α) (fun _ _ k => k []) (fun y r ih i x k => Nat.rec (motive := fun _ => α) (k (x :: r)) (fun i _ => ih i x fun r => k (y :: r)) i) e
theorem setE_eq : ∀ (e : Me) (i : Nat) (x : Option MV) (k : Me → α), setE e i x k = k (e.set i x)
  | [], _, _, _ => rfl
  | _ :: r, 0, _, _ => rfl
  | y :: r, i + 1, x, k => setE_eq r i x fun r => k (y :: r)
end
noncomputable def evVarF (i : Nat) : Ev := fun env hp => match getE env i with
  | some x => some (x, hp)
  | none => none
theorem evVarF_eq : evVarF = evVar := by
  funext i env hp
  unfold evVarF evVar
  rw [getE_eq]
  cases env[i]? with
  | none => rfl
  | some o => cases o <;> rfl
noncomputable def evN : Evs := fun _ hp => some ([], hp)
noncomputable def evC (f : Ev) (r : Evs) : Evs := fun env hp => match f env hp with
  | none => none
  | some (x, h1) => match r env h1 with
    | none => none
    | some (xs, h2) => some (x :: xs, h2)
theorem evN_eq : evN = evAll [] := rfl
theorem evC_eq (f : Ev) (r : List Ev) : evC f (evAll r) = evAll (f :: r) := by
  funext env hp
  unfold evC
  show _ = (f env hp).bind _
  cases f env hp with
  | none => rfl
  | some p =>
    show (match evAll r env p.2 with | none => none | some (xs, h2) => some (p.1 :: xs, h2)) = (evAll r env p.2).bind _
    cases evAll r env p.2 <;> rfl
noncomputable def datasF (xs : List MV) : Option (List PyData) := List.rec (motive := fun _ => Option (List PyData)) (some []) (fun x _ ih => match x with
  | .d x => match ih with
    | some xs => some (x :: xs)
    | none => none
  | _ => none) xs
theorem datasF_eq : ∀ xs, datasF xs = datas xs
  | [] => rfl
  | .d x :: r => by
    show (match datasF r with | some xs => some (x :: xs) | none => none) = (match datas r with | some xs => some (x :: xs) | none => none)
    rw [datasF_eq r]
  | .c _ :: _ => rfl
  | .k _ :: _ => rfl
noncomputable def lenF {β : Type} (xs : List β) : Nat := List.rec (motive := fun _ => Nat) 0 (fun _ _ ih => Nat.succ ih) xs
theorem lenF_eq {β : Type} : ∀ xs : List β, lenF xs = xs.length
  | [] => rfl
  | _ :: r => congrArg Nat.succ (lenF_eq r)
noncomputable def nthF {β : Type} (xs : List β) : Nat → Option β := List.rec (motive := fun _ => Nat → Option β) (fun _ => none) (fun x _ ih i => Nat.rec (motive := fun _ => Option β) (some x) (fun i _ => ih i) i) xs
theorem nthF_eq {β : Type} : ∀ (xs : List β) (i : Nat), nthF xs i = xs[i]?
  | [], _ => by show none = _; simp
  | _ :: _, 0 => rfl
  | _ :: r, i + 1 => nthF_eq r i
noncomputable def evFzF (f : Ev) : Ev := fun env hp => match f env hp with
  | none => none
  | some (x, h) => match fzM x h with
    | none => none
    | some (d, h) => some (.d d, h)
theorem evFzF_eq : evFzF = evFz := by
  funext f env hp
  unfold evFzF evFz
  cases f env hp with
  | none => rfl
  | some p =>
    show (match fzM p.1 p.2 with | none => none | some (d, h) => some (MV.d d, h)) = (fzM p.1 p.2).bind _
    cases fzM p.1 p.2 <;> rfl
noncomputable def evStF (f : Er) : Ev := fun env hp => match f env hp with
  | none => none
  | some (.v x, h) => fcV x fun x => some (x, h)
  | some (.l xs, h) => match datasF xs with
    | none => none
    | some ds => some (.d (.list ds), h)
theorem evStF_eq : evStF = evSt := by
  funext f env hp
  unfold evStF evSt
  cases f env hp with
  | none => rfl
  | some p =>
    obtain ⟨r, h⟩ := p
    cases r with
    | v x => exact fcV_eq _ _
    | l xs =>
      show (match datasF xs with | none => none | some ds => some (MV.d (.list ds), h)) = (datas xs).bind _
      rw [datasF_eq]
      cases datas xs <;> rfl
noncomputable def evMkF (f : Er) : Ev := fun env hp => match f env hp with
  | none => none
  | some (.v _, _) => none
  | some (.l xs, h) => fcN h.length fun n => fcH (h ++ [.lst xs]) fun h => some (.c n, h)
theorem evMkF_eq : evMkF = evMk := by
  funext f env hp
  unfold evMkF evMk
  cases f env hp with
  | none => rfl
  | some p =>
    obtain ⟨r, h⟩ := p
    cases r with
    | v x => rfl
    | l xs => exact (fcN_eq _ _).trans (fcH_eq _ _)
noncomputable def evBinF (op : MV → MV → Mh → Option R) (f g : Ev) : Er := fun env hp => match f env hp with
  | none => none
  | some (x, h1) => match g env h1 with
    | none => none
    | some (y, h2) => match op x y h2 with
      | none => none
      | some r => some (r, h2)
theorem evBinF_eq : evBinF = evBin := by
  funext op f g env hp
  unfold evBinF evBin
  cases f env hp with
  | none => rfl
  | some p =>
    show (match g env p.2 with | none => none | some (y, h2) => match op p.1 y h2 with | none => none | some r => some (r, h2)) = (g env p.2).bind _
    cases g env p.2 with
    | none => rfl
    | some q =>
      show (match op p.1 q.1 q.2 with | none => none | some r => some (r, q.2)) = (op p.1 q.1 q.2).bind _
      cases op p.1 q.1 q.2 <;> rfl
noncomputable def evUnF (op : MV → Mh → Option R) (f : Ev) : Er := fun env hp => match f env hp with
  | none => none
  | some (x, h1) => match op x h1 with
    | none => none
    | some r => some (r, h1)
theorem evUnF_eq : evUnF = evUn := by
  funext op f env hp
  unfold evUnF evUn
  cases f env hp with
  | none => rfl
  | some p =>
    show (match op p.1 p.2 with | none => none | some r => some (r, p.2)) = (op p.1 p.2).bind _
    cases op p.1 p.2 <;> rfl
noncomputable def evBltF (op : List MV → Mh → Option R) (fs : Evs) : Er := fun env hp => match fs env hp with
  | none => none
  | some (x, h1) => match op x h1 with
    | none => none
    | some r => some (r, h1)
theorem evBltF_eq (op : List MV → Mh → Option R) (fs : List Ev) : evBltF op (evAll fs) = evBlt op fs := by
  funext env hp
  unfold evBltF evBlt
  cases evAll fs env hp with
  | none => rfl
  | some p =>
    show (match op p.1 p.2 with | none => none | some r => some (r, p.2)) = (op p.1 p.2).bind _
    cases op p.1 p.2 <;> rfl
noncomputable def evCmpF (op : MV → MV → Mh → Option Bool) (f g : Ev) : Et := fun env hp => match f env hp with
  | none => none
  | some (x, h1) => match g env h1 with
    | none => none
    | some (y, h2) => match op x y h2 with
      | none => none
      | some true => some (true, h2)
      | some false => some (false, h2)
theorem evCmpF_eq : evCmpF = evCmp := by
  funext op f g env hp
  unfold evCmpF evCmp
  cases f env hp with
  | none => rfl
  | some p =>
    show (match g env p.2 with | none => none | some (y, h2) => match op p.1 y h2 with | none => none | some true => some (true, h2) | some false => some (false, h2)) = (g env p.2).bind _
    cases g env p.2 with
    | none => rfl
    | some q =>
      show (match op p.1 q.1 q.2 with | none => none | some true => some (true, q.2) | some false => some (false, q.2)) = (op p.1 q.1 q.2).bind _
      cases op p.1 q.1 q.2 with
      | none => rfl
      | some b => cases b <;> rfl
noncomputable def nleq : List Nat → List Nat → Bool
  | [], [] => true
  | a :: r, b :: s => match Nat.beq a b with
    | true => nleq r s
    | false => false
  | _, _ => false
theorem nleq_eq : ∀ (a b : List Nat), nleq a b = decide (a = b)
  | [], [] => rfl
  | [], _ :: _ => rfl
  | _ :: _, [] => rfl
  | a :: r, b :: s => by
    unfold nleq
    cases h : Nat.beq a b with
    | true =>
      have := Nat.eq_of_beq_eq_true h
      subst this
      simp [nleq_eq r s]
    | false =>
      have := Nat.ne_of_beq_eq_false h
      simp [this]
noncomputable def eqF (a b : MV) (hp : Mh) : Option Bool := match a, b with
  | .d (.int i), .d (.int j) => some (decide (i = j))
  | .d (.str x), .d (.str y) => some (nleq x.cps.toList y.cps.toList)
  | a, b => eqM a b hp
theorem eqF_eq : eqF = eqM := by
  funext a b hp
  unfold eqF
  split
  · rename_i i j
    show _ = (if dOk (.int i) || dOk (.int j) then some (PyData.eqv (.int i) (.int j)) else none)
    have h : dOk (.int i) = true := rfl
    rw [h]
    show _ = some (PyData.eqv (.int i) (.int j))
    congr 1
  · rename_i x y
    show _ = (if dOk (.str x) || dOk (.str y) then some (PyData.eqv (.str x) (.str y)) else none)
    have h : dOk (.str x) = true := rfl
    rw [h]
    show _ = some (PyData.eqv (.str x) (.str y))
    congr 1
    show _ = decide (x = y)
    rw [nleq_eq]
    obtain ⟨⟨x⟩⟩ := x
    obtain ⟨⟨y⟩⟩ := y
    simp
  · rfl
noncomputable def cmpMF (op : CmpOp) (a b : MV) (hp : Mh) : Option Bool := match op with
  | .Eq => eqF a b hp
  | .NotEq => match eqF a b hp with
    | none => none
    | some true => some false
    | some false => some true
  | op => cmpM op a b hp
theorem cmpMF_eq : cmpMF = cmpM := by
  funext op a b hp
  cases op with
  | Eq => show eqF a b hp = eqM a b hp; rw [eqF_eq]
  | NotEq =>
    show (match eqF a b hp with | none => none | some true => some false | some false => some true) = (eqM a b hp).map (!·)
    rw [eqF_eq]
    cases eqM a b hp with
    | none => rfl
    | some c => cases c <;> rfl
  | _ => rfl
/-- a text by its characters -/
noncomputable def ks (l : List Nat) : Ev := evK (.d (.str ⟨⟨l⟩⟩))
noncomputable def evOfTF (t : Et) : Ev := fun env hp => match t env hp with
  | none => none
  | some (b, h) => some (.d (.bool b), h)
theorem evOfTF_eq : evOfTF = evOfT := by
  funext f env hp
  unfold evOfTF evOfT
  cases f env hp <;> rfl
noncomputable def etTruF (f : Ev) : Et := fun env hp => match f env hp with
  | none => none
  | some (x, h) => match truM x h with
    | none => none
    | some true => some (true, h)
    | some false => some (false, h)
theorem etTruF_eq : etTruF = etTru := by
  funext f env hp
  unfold etTruF etTru
  cases f env hp with
  | none => rfl
  | some p =>
    show (match truM p.1 p.2 with | none => none | some true => some (true, p.2) | some false => some (false, p.2)) = (truM p.1 p.2).bind _
    cases truM p.1 p.2 with
    | none => rfl
    | some b => cases b <;> rfl
noncomputable def etNotF (t : Et) : Et := fun env hp => match t env hp with
  | none => none
  | some (true, h) => some (false, h)
  | some (false, h) => some (true, h)
theorem etNotF_eq : etNotF = etNot := by
  funext f env hp
  unfold etNotF etNot
  cases f env hp with
  | none => rfl
  | some p => obtain ⟨b, h⟩ := p; cases b <;> rfl
noncomputable def etAndF (t u : Et) : Et := fun env hp => match t env hp with
  | none => none
  | some (true, h) => u env h
  | some (false, h) => some (false, h)
theorem etAndF_eq : etAndF = etAnd := by
  funext f g env hp
  unfold etAndF etAnd
  cases f env hp with
  | none => rfl
  | some p => obtain ⟨b, h⟩ := p; cases b <;> rfl
noncomputable def etOrF (t u : Et) : Et := fun env hp => match t env hp with
  | none => none
  | some (true, h) => some (true, h)
  | some (false, h) => u env h
theorem etOrF_eq : etOrF = etOr := by
  funext f g env hp
  unfold etOrF etOr
  cases f env hp with
  | none => rfl
  | some p => obtain ⟨b, h⟩ := p; cases b <;> rfl
noncomputable def evIfF (t : Et) (f g : Ev) : Ev := fun env hp => match t env hp with
  | none => none
  | some (true, h) => f env h
  | some (false, h) => g env h
theorem evIfF_eq : evIfF = evIf := by
  funext t f g env hp
  unfold evIfF evIf
  cases t env hp with
  | none => rfl
  | some p => obtain ⟨b, h⟩ := p; cases b <;> rfl
noncomputable def evAndF (f g : Ev) : Ev := fun env hp => match f env hp with
  | none => none
  | some (x, h) => match truM x h with
    | none => none
    | some true => g env h
    | some false => some (x, h)
theorem evAndF_eq : evAndF = evAnd := by
  funext f g env hp
  unfold evAndF evAnd
  cases f env hp with
  | none => rfl
  | some p =>
    show (match truM p.1 p.2 with | none => none | some true => g env p.2 | some false => some (p.1, p.2)) = (truM p.1 p.2).bind _
    cases truM p.1 p.2 with
    | none => rfl
    | some b => cases b <;> rfl
noncomputable def evOrF (f g : Ev) : Ev := fun env hp => match f env hp with
  | none => none
  | some (x, h) => match truM x h with
    | none => none
    | some true => some (x, h)
    | some false => g env h
theorem evOrF_eq : evOrF = evOr := by
  funext f g env hp
  unfold evOrF evOr
  cases f env hp with
  | none => rfl
  | some p =>
    show (match truM p.1 p.2 with | none => none | some true => some (p.1, p.2) | some false => g env p.2) = (truM p.1 p.2).bind _
    cases truM p.1 p.2 with
    | none => rfl
    | some b => cases b <;> rfl
noncomputable def evTupF (fs : Evs) : Ev := fun env hp => match fs env hp with
  | none => none
  | some (xs, h) => match datasF xs with
    | none => none
    | some ds => match Nat.ble (lenF ds) sizeLine with
      | true => some (.d (.tuple ds), h)
      | false => none
theorem ble_if {β : Type} {a b : Nat} {x y : β} : (match Nat.ble a b with | true => x | false => y) = if a ≤ b then x else y := by
  cases h : Nat.ble a b with
  | true => rw [if_pos (Nat.le_of_ble_eq_true h)]
  | false => rw [if_neg (fun z => by rw [Nat.ble_eq_true_of_le z] at h; cases h)]
theorem beq_if {β : Type} {a b : Nat} {x y : β} : (match Nat.beq a b with | true => x | false => y) = if a = b then x else y := by
  cases h : Nat.beq a b with
  | true => rw [if_pos (Nat.eq_of_beq_eq_true h)]
  | false => rw [if_neg (Nat.ne_of_beq_eq_false h)]
theorem evTupF_eq (fs : List Ev) : evTupF (evAll fs) = evTup fs := by
  funext env hp
  unfold evTupF evTup
  cases evAll fs env hp with
  | none => rfl
  | some p =>
    show (match datasF p.1 with | none => none | some ds => match Nat.ble (lenF ds) sizeLine with | true => some (MV.d (.tuple ds), p.2) | false => none) = (datas p.1).bind _
    rw [datasF_eq]
    cases datas p.1 with
    | none => rfl
    | some ds =>
      show (match Nat.ble (lenF ds) sizeLine with | true => some (MV.d (.tuple ds), p.2) | false => none) = if ds.length ≤ sizeLine then _ else _
      rw [ble_if, lenF_eq]
noncomputable def evLstF (fs : Evs) : Er := fun env hp => match fs env hp with
  | none => none
  | some (xs, h) => match Nat.ble (lenF xs) sizeLine with
    | true => some (.l xs, h)
    | false => none
theorem evLstF_eq (fs : List Ev) : evLstF (evAll fs) = evLst fs := by
  funext env hp
  unfold evLstF evLst
  cases evAll fs env hp with
  | none => rfl
  | some p =>
    show (match Nat.ble (lenF p.1) sizeLine with | true => some (R.l p.1, p.2) | false => none) = if p.1.length ≤ sizeLine then _ else _
    rw [ble_if, lenF_eq]
noncomputable def evCallF (φ : List MV → Mh → Option (MV × Mh)) (fs : Evs) : Ev := fun env hp => match fs env hp with
  | none => none
  | some (xs, h) => φ xs h
theorem evCallF_eq (φ : List MV → Mh → Option (MV × Mh)) (fs : List Ev) : evCallF φ (evAll fs) = evCall φ fs := by
  funext env hp
  unfold evCallF evCall
  cases evAll fs env hp <;> rfl
noncomputable def evMtF (op : Mt) (f : Ev) (fs : Evs) : Ev := fun env hp => match f env hp with
  | none => none
  | some (x, h1) => match lstOf x h1 with
    | none => none
    | some _ => match fs env h1 with
      | none => none
      | some (xs, h2) => match op x xs h2 with
        | none => none
        | some (r, h3) => fcH h3 fun h3 => some (r, h3)
theorem evMtF_eq (op : Mt) (f : Ev) (fs : List Ev) : evMtF op f (evAll fs) = evMt op f fs := by
  funext env hp
  unfold evMtF evMt
  cases f env hp with
  | none => rfl
  | some p =>
    show (match lstOf p.1 p.2 with | none => none | some _ => match evAll fs env p.2 with | none => none | some (xs, h2) => match op p.1 xs h2 with | none => none | some (r, h3) => fcH h3 fun h3 => some (r, h3)) = (lstOf p.1 p.2).bind _
    cases lstOf p.1 p.2 with
    | none => rfl
    | some _ =>
      show (match evAll fs env p.2 with | none => none | some (xs, h2) => match op p.1 xs h2 with | none => none | some (r, h3) => fcH h3 fun h3 => some (r, h3)) = (evAll fs env p.2).bind _
      cases evAll fs env p.2 with
      | none => rfl
      | some q =>
        show (match op p.1 q.1 q.2 with | none => none | some (r, h3) => fcH h3 fun h3 => some (r, h3)) = op p.1 q.1 q.2
        cases op p.1 q.1 q.2 with
        | none => rfl
        | some r => exact fcH_eq _ _
noncomputable def evIsiF (f : Ev) (ts : List String) : Ev := fun env hp => match f env hp with
  | none => none
  | some (x, h) => match tyM x h with
    | none => none
    | some t => match anyT t ts with
      | none => none
      | some true => some (.d (.bool true), h)
      | some false => some (.d (.bool false), h)
theorem evIsiF_eq : evIsiF = evIsi := by
  funext f ts env hp
  unfold evIsiF evIsi
  cases f env hp with
  | none => rfl
  | some p =>
    show (match tyM p.1 p.2 with | none => none | some t => match anyT t ts with | none => none | some true => some (MV.d (.bool true), p.2) | some false => some (MV.d (.bool false), p.2)) = (tyM p.1 p.2).bind _
    cases tyM p.1 p.2 with
    | none => rfl
    | some t =>
      show (match anyT t ts with | none => none | some true => some (MV.d (.bool true), p.2) | some false => some (MV.d (.bool false), p.2)) = (anyT t ts).bind _
      cases anyT t ts with
      | none => rfl
      | some b => cases b <;> rfl

/-- small products at once -/
noncomputable def opMulF (a b : MV) (hp : Mh) : Option R := match a with
  | .d (.int (.ofNat i)) => match b with
    | .d (.int (.ofNat j)) => match Nat.ble i 1000000 with
      | true => some (.v (.d (.int (.ofNat (Nat.mul i j)))))
      | false => opMul a b hp
    | _ => opMul a b hp
  | _ => opMul a b hp
theorem opMulF_eq : opMulF = opMul := by
  funext a b hp
  unfold opMulF
  split
  · rename_i i
    split
    · rename_i j
      split
      · rename_i h
        have h : i ≤ 1000000 := Nat.le_of_ble_eq_true h
        rw [mul_l (a := .ofNat i) (.ofNat j) hp (by show i < 2 ^ 64; omega)]
        rfl
      · rfl
    · rfl
  · rfl

/-! ### targets, statements -/
noncomputable def egNameF (i : Nat) : Eg := fun x env hp => setE env i (some x) fun env => some (env, hp)
theorem egNameF_eq : egNameF = egName := by
  funext i x env hp
  exact setE_eq _ _ _ _
noncomputable def egN : List MV → Me → Mh → Option (Me × Mh) := fun xs env hp => match xs with
  | [] => some (env, hp)
  | _ :: _ => none
noncomputable def egC (g : Eg) (r : List MV → Me → Mh → Option (Me × Mh)) : List MV → Me → Mh → Option (Me × Mh) := fun xs env hp => match xs with
  | [] => none
  | x :: xs => match g x env hp with
    | none => none
    | some (e, h) => r xs e h
theorem egN_eq : egN = egAll [] := by
  funext xs
  cases xs <;> rfl
theorem egC_eq (g : Eg) (gs : List Eg) : egC g (egAll gs) = egAll (g :: gs) := by
  funext xs env hp
  cases xs with
  | nil => rfl
  | cons x xs =>
    show (match g x env hp with | none => none | some (e, h) => egAll gs xs e h) = (g x env hp).bind _
    cases g x env hp <;> rfl
theorem egAll_len : ∀ (gs : List Eg) (xs : List MV) (env : Me) (hp : Mh), xs.length ≠ gs.length → egAll gs xs env hp = none
  | [], [], _, _, h => absurd rfl h
  | [], _ :: _, _, _, _ => rfl
  | _ :: _, [], _, _, _ => rfl
  | g :: gs, x :: xs, env, hp, h => by
    show (g x env hp).bind _ = none
    cases g x env hp with
    | none => rfl
    | some p => exact egAll_len gs xs _ _ (fun z => h (congrArg Nat.succ z))
noncomputable def mapDF (xs : List PyData) : List MV := List.rec (motive := fun _ => List MV) [] (fun x _ ih => .d x :: ih) xs
theorem mapDF_eq : ∀ xs, mapDF xs = xs.map .d
  | [] => rfl
  | x :: r => congrArg (_ :: ·) (mapDF_eq r)
noncomputable def egTupF (gs : List MV → Me → Mh → Option (Me × Mh)) : Eg := fun x env hp => match x with
  | .d (.tuple ds) => gs (mapDF ds) env hp
  | _ => none
theorem egTupF_eq (gs : List Eg) : egTupF (egAll gs) = egTup gs := by
  funext x env hp
  unfold egTupF egTup
  cases x with
  | d y =>
    cases y with
    | tuple ds =>
      show egAll gs (mapDF ds) env hp = if ds.length = gs.length then egAll gs (ds.map .d) env hp else none
      rw [mapDF_eq]
      split
      · rfl
      · rename_i h
        exact egAll_len _ _ _ _ (by simpa using h)
    | _ => rfl
  | c n => rfl
  | k t => rfl
noncomputable def sqN : ES := fun env hp => some (.nx, env, hp)
noncomputable def sqC (s : ES) (r : ES) : ES := fun env hp => match s env hp with
  | none => none
  | some (.nx, e, h) => r e h
  | some (.rt x, e, h) => some (.rt x, e, h)
  | some (.bk, e, h) => some (.bk, e, h)
  | some (.ct, e, h) => some (.ct, e, h)
noncomputable def sqs (l : List ES) : ES := List.rec (motive := fun _ => ES) sqN (fun s _ ih => sqC s ih) l
theorem sqN_eq : sqN = esSeq [] := rfl
theorem sqC_eq (f : ES) (r : List ES) : sqC f (esSeq r) = esSeq (f :: r) := by
  funext env hp
  unfold sqC
  show _ = (f env hp).bind _
  cases f env hp with
  | none => rfl
  | some p => obtain ⟨o, e, h⟩ := p; cases o <;> rfl
theorem sqs_eq : sqs = esSeq := by
  funext l
  induction l with
  | nil => rfl
  | cons s r ih =>
    show sqC s (sqs r) = _
    rw [ih, sqC_eq]
noncomputable def esAsgF (f : Ev) (g : Eg) : ES := fun env hp => match f env hp with
  | none => none
  | some (x, h) => match g x env h with
    | none => none
    | some (e, h) => some (.nx, e, h)
theorem esAsgF_eq : esAsgF = esAsg := by
  funext f g env hp
  unfold esAsgF esAsg
  cases f env hp with
  | none => rfl
  | some p =>
    show (match g p.1 env p.2 with | none => none | some (e, h) => some (Out.nx, e, h)) = (g p.1 env p.2).bind _
    cases g p.1 env p.2 <;> rfl
noncomputable def esParF (fs : Evs) (gs : List MV → Me → Mh → Option (Me × Mh)) : ES := fun env hp => match fs env hp with
  | none => none
  | some (xs, h) => match gs xs env h with
    | none => none
    | some (e, h) => some (.nx, e, h)
theorem esParF_eq (f : List Ev) (g : List Eg) : esParF (evAll f) (egAll g) = esPar f g := by
  funext env hp
  unfold esParF esPar
  cases evAll f env hp with
  | none => rfl
  | some p =>
    show (match egAll g p.1 env p.2 with | none => none | some (e, h) => some (Out.nx, e, h)) = (egAll g p.1 env p.2).bind _
    cases egAll g p.1 env p.2 <;> rfl
noncomputable def esExprF (f : Ev) : ES := fun env hp => match f env hp with
  | none => none
  | some (_, h) => some (.nx, env, h)
theorem esExprF_eq : esExprF = esExpr := by
  funext f env hp
  unfold esExprF esExpr
  cases f env hp <;> rfl
noncomputable def esRetF (f : Ev) : ES := fun env hp => match f env hp with
  | none => none
  | some (x, h) => some (.rt x, env, h)
theorem esRetF_eq : esRetF = esRet := by
  funext f env hp
  unfold esRetF esRet
  cases f env hp <;> rfl
noncomputable def esIfF (t : Et) (a b : ES) : ES := fun env hp => match t env hp with
  | none => none
  | some (true, h) => a env h
  | some (false, h) => b env h
theorem esIfF_eq : esIfF = esIf := by
  funext t f g env hp
  unfold esIfF esIf
  cases t env hp with
  | none => rfl
  | some p => obtain ⟨b, h⟩ := p; cases b <;> rfl
noncomputable def goWhileF (t : Et) (b : ES) (k : Nat) : ES := Nat.rec (motive := fun _ => ES) (fun _ _ => none) (fun _ ih env hp => match t env hp with
    | none => none
    | some (true, h) => match b env h with
      | none => none
      | some (.nx, e, h) => ih e h
      | some (.ct, e, h) => ih e h
      | some (.bk, e, h) => some (.nx, e, h)
      | some (.rt x, e, h) => some (.rt x, e, h)
    | some (false, h) => some (.nx, env, h)) k
theorem goWhileF_eq : goWhileF = goWhile := by
  funext t b k
  induction k with
  | zero => rfl
  | succ k ih =>
    funext env hp
    unfold goWhile
    rw [← ih]
    show (match t env hp with
    | none => none
    | some (true, h) => match b env h with
      | none => none
      | some (.nx, e, h) => goWhileF t b k e h
      | some (.ct, e, h) => goWhileF t b k e h
      | some (.bk, e, h) => some (.nx, e, h)
      | some (.rt x, e, h) => some (.rt x, e, h)
    | some (false, h) => some (.nx, env, h)) = _
    rw [ih]
    cases t env hp with
    | none => rfl
    | some p =>
      obtain ⟨c, h⟩ := p
      cases c with
      | false => rfl
      | true =>
        show (match b env h with | none => none | some (.nx, e, h) => goWhile t b k e h | some (.ct, e, h) => goWhile t b k e h | some (.bk, e, h) => some (.nx, e, h) | some (.rt x, e, h) => some (.rt x, e, h)) = (b env h).bind _
        cases b env h with
        | none => rfl
        | some q => obtain ⟨o, e, h⟩ := q; cases o <;> rfl
noncomputable def eiSeqF (f : Ev) : Ei := fun env hp => match f env hp with
  | none => none
  | some (x, h) => match seqOf x h with
    | none => none
    | some xs => fcN xs.length fun n => some (.seq x n, h)
theorem eiSeqF_eq : eiSeqF = eiSeq := by
  funext f env hp
  unfold eiSeqF eiSeq
  cases f env hp with
  | none => rfl
  | some p =>
    show (match seqOf p.1 p.2 with | none => none | some xs => fcN xs.length fun n => some (Src.seq p.1 n, p.2)) = (seqOf p.1 p.2).bind _
    cases seqOf p.1 p.2 with
    | none => rfl
    | some xs => exact fcN_eq _ _
noncomputable def eiRng1F (f : Ev) : Ei := fun env hp => match f env hp with
  | some (.d (.int j), h) => if rngOk j then fcN j.toNat fun n => some (.rng 0 n, h) else none
  | _ => none
theorem eiRng1F_eq : eiRng1F = eiRng1 := by
  funext f env hp
  unfold eiRng1F eiRng1
  simp only [fcN_eq]
  cases f env hp with
  | none => rfl
  | some p =>
    obtain ⟨x, h⟩ := p
    cases x with
    | d y => cases y <;> rfl
    | c n => rfl
    | k t => rfl
noncomputable def eiRng2F (f g : Ev) : Ei := fun env hp => match f env hp with
  | some (.d (.int i), h1) => match g env h1 with
    | some (.d (.int j), h2) => if rngOk i && rngOk j then fcN (j - i).toNat fun n => some (.rng i n, h2) else none
    | _ => none
  | _ => none
theorem eiRng2F_eq : eiRng2F = eiRng2 := by
  funext f g env hp
  unfold eiRng2F eiRng2
  simp only [fcN_eq]
  have no : ∀ {x : MV} {h1 : Mh}, (∀ i, x ≠ .d (.int i)) → none = (g env h1).bind fun q => (match x, q.1 with | .d (.int i), .d (.int j) => if rngOk i && rngOk j then some (Src.rng i (j - i).toNat, q.2) else none | _, _ => none) := by
    intro x h1 hx
    cases g env h1 with
    | none => rfl
    | some q =>
      show none = (match x, q.1 with | .d (.int i), .d (.int j) => if rngOk i && rngOk j then some (Src.rng i (j - i).toNat, q.2) else none | _, _ => none)
      cases x with
      | d y => cases y <;> first | rfl | exact absurd rfl (hx _)
      | c n => rfl
      | k t => rfl
  cases f env hp with
  | none => rfl
  | some p =>
    obtain ⟨x, h1⟩ := p
    cases x with
    | d y =>
      cases y with
      | int i =>
        show (match g env h1 with | some (.d (.int j), h2) => if rngOk i && rngOk j then some (Src.rng i (j - i).toNat, h2) else none | _ => none) = (g env h1).bind _
        cases g env h1 with
        | none => rfl
        | some q =>
          obtain ⟨z, h2⟩ := q
          cases z with
          | d w => cases w <;> rfl
          | c n => rfl
          | k t => rfl
      | none => exact no (x := .d .none) (h1 := h1) (fun i h => by cases h)
      | bool b => exact no (x := .d (.bool b)) (h1 := h1) (fun i h => by cases h)
      | str b => exact no (x := .d (.str b)) (h1 := h1) (fun i h => by cases h)
      | list b => exact no (x := .d (.list b)) (h1 := h1) (fun i h => by cases h)
      | tuple b => exact no (x := .d (.tuple b)) (h1 := h1) (fun i h => by cases h)
      | dict b => exact no (x := .d (.dict b)) (h1 := h1) (fun i h => by cases h)
    | c n => exact no (x := .c n) (h1 := h1) (fun i h => by cases h)
    | k t => exact no (x := .k t) (h1 := h1) (fun i h => by cases h)
/-- over a list that stays -/
noncomputable def goForD (g : Eg) (b : ES) (l : List PyData) : ES := List.rec (motive := fun _ => ES) (fun env hp => some (.nx, env, hp)) (fun x _ ih env hp => match g (.d x) env hp with
    | none => none
    | some (e, h) => match b e h with
      | none => none
      | some (.nx, e, h) => ih e h
      | some (.ct, e, h) => ih e h
      | some (.bk, e, h) => some (.nx, e, h)
      | some (.rt x, e, h) => some (.rt x, e, h)) l
noncomputable def goForR (g : Eg) (b : ES) (k : Nat) : Int → ES := Nat.rec (motive := fun _ => Int → ES) (fun _ env hp => some (.nx, env, hp)) (fun _ ih i env hp => fcI i fun i => match g (.d (.int i)) env hp with
    | none => none
    | some (e, h) => match b e h with
      | none => none
      | some (.nx, e, h) => ih (i + 1) e h
      | some (.ct, e, h) => ih (i + 1) e h
      | some (.bk, e, h) => some (.nx, e, h)
      | some (.rt x, e, h) => some (.rt x, e, h)) k
theorem goForD_eq {g : Eg} {b : ES} {y : MV} {ds : List PyData} (hy : ∀ hp, seqOf y hp = some (ds.map .d)) : ∀ (l : List PyData) (i : Nat) (env : Me) (hp : Mh), ds.drop i = l → goForD g b l env hp = goFor (.seq y ds.length) g b l.length i env hp
  | [], i, env, hp, hd => by
    show _ = (if (Src.seq y ds.length).stop hp = true then some (Out.nx, env, hp) else none)
    have : (Src.seq y ds.length).stop hp = true := by
      show (match seqOf y hp with | some xs => decide (xs.length = ds.length) | none => false) = true
      rw [hy]
      simp
    rw [if_pos this]
    rfl
  | x :: r, i, env, hp, hd => by
    have hx : ds[i]? = some x := by
      have := congrArg (fun l => l[0]?) hd
      simpa using this
    have hr : ds.drop (i + 1) = r := by
      rw [← List.drop_drop, hd]
      rfl
    have ha : (Src.seq y ds.length).at i hp = some (.d x) := by
      show (match seqOf y hp with | some xs => if xs.length = ds.length then xs[i]? else none | none => none) = _
      rw [hy]
      show (if (ds.map MV.d).length = ds.length then (ds.map MV.d)[i]? else none) = _
      rw [if_pos (by simp), List.getElem?_map, hx]
      rfl
    show (match g (.d x) env hp with | none => none | some (e, h) => match b e h with | none => none | some (.nx, e, h) => goForD g b r e h | some (.ct, e, h) => goForD g b r e h | some (.bk, e, h) => some (Out.nx, e, h) | some (.rt x, e, h) => some (.rt x, e, h)) = ((Src.seq y ds.length).at i hp).bind _
    rw [ha]
    show _ = (g (.d x) env hp).bind _
    cases g (.d x) env hp with
    | none => rfl
    | some p =>
      show (match b p.1 p.2 with | none => none | some (.nx, e, h) => goForD g b r e h | some (.ct, e, h) => goForD g b r e h | some (.bk, e, h) => some (Out.nx, e, h) | some (.rt x, e, h) => some (.rt x, e, h)) = (b p.1 p.2).bind _
      cases b p.1 p.2 with
      | none => rfl
      | some q =>
        obtain ⟨o, e, h⟩ := q
        cases o with
        | nx => exact goForD_eq hy r (i + 1) e h hr
        | ct => exact goForD_eq hy r (i + 1) e h hr
        | bk => rfl
        | rt x => rfl
theorem goForR_eq {g : Eg} {b : ES} {lo : Int} {n : Nat} : ∀ (k i : Nat) (env : Me) (hp : Mh), i + k ≤ n → goForR g b k (lo + i) env hp = goFor (.rng lo n) g b k i env hp
  | 0, i, env, hp, _ => rfl
  | k + 1, i, env, hp, hi => by
    have ha : (Src.rng lo n).at i hp = some (.d (.int (lo + (i : Int)))) := by
      show (if i < n then some (MV.d (.int (lo + (i : Int)))) else none) = _
      rw [if_pos (by omega)]
    unfold goFor
    show (fcI (lo + (i : Int)) fun i => match g (.d (.int i)) env hp with | none => none | some (e, h) => match b e h with | none => none | some (.nx, e, h) => goForR g b k (i + 1) e h | some (.ct, e, h) => goForR g b k (i + 1) e h | some (.bk, e, h) => some (Out.nx, e, h) | some (.rt x, e, h) => some (.rt x, e, h)) = _
    rw [fcI_eq, ha]
    show _ = (g (.d (.int (lo + (i : Int)))) env hp).bind _
    cases g (.d (.int (lo + (i : Int)))) env hp with
    | none => rfl
    | some p =>
      show (match b p.1 p.2 with | none => none | some (.nx, e, h) => goForR g b k (lo + (i : Int) + 1) e h | some (.ct, e, h) => goForR g b k (lo + (i : Int) + 1) e h | some (.bk, e, h) => some (Out.nx, e, h) | some (.rt x, e, h) => some (.rt x, e, h)) = (b p.1 p.2).bind _
      have e1 : lo + (i : Int) + 1 = lo + ((i + 1 : Nat) : Int) := by omega
      rw [e1]
      cases b p.1 p.2 with
      | none => rfl
      | some q =>
        obtain ⟨o, e, h⟩ := q
        cases o with
        | nx => exact goForR_eq k (i + 1) e h (by omega)
        | ct => exact goForR_eq k (i + 1) e h (by omega)
        | bk => rfl
        | rt x => rfl
noncomputable def esForF (it : Ei) (g : Eg) (b : ES) : ES := fun env hp => match it env hp with
  | none => none
  | some (.rng lo n, h) => goForR g b n lo env h
  | some (.seq (.d (.list ds)) n, h) => if n = ds.length then goForD g b ds env h else goFor (.seq (.d (.list ds)) n) g b n 0 env h
  | some (.seq (.d (.tuple ds)) n, h) => if n = ds.length then goForD g b ds env h else goFor (.seq (.d (.tuple ds)) n) g b n 0 env h
  | some (s, h) => goFor s g b s.size 0 env h
theorem esForF_eq : esForF = esFor := by
  funext it g b env hp
  unfold esForF esFor
  cases it env hp with
  | none => rfl
  | some p =>
    obtain ⟨s, h⟩ := p
    show _ = goFor s g b s.size 0 env h
    cases s with
    | rng lo n =>
      have := goForR_eq (g := g) (b := b) (lo := lo) (n := n) n 0 env h (by omega)
      rw [show lo + ((0 : Nat) : Int) = lo by omega] at this
      exact this
    | seq x n =>
      have key : ∀ {ds : List PyData}, (∀ hp, seqOf x hp = some (ds.map .d)) → (if n = ds.length then goForD g b ds env h else goFor (.seq x n) g b n 0 env h) = goFor (.seq x n) g b n 0 env h := by
        intro ds hx
        split
        · rename_i hn
          subst hn
          exact goForD_eq hx ds 0 env h rfl
        · rfl
      cases x with
      | d y =>
        cases y with
        | list ds => exact key fun _ => rfl
        | tuple ds => exact key fun _ => rfl
        | _ => rfl
      | c n => rfl
      | k t => rfl

/-! ### comprehensions -/
noncomputable def revF {β : Type} (l : List β) : List β → List β := List.rec (motive := fun _ => List β → List β) (fun acc => acc) (fun x _ ih acc => ih (x :: acc)) l
theorem revF_eq {β : Type} : ∀ (l acc : List β), revF l acc = l.reverse ++ acc
  | [], acc => rfl
  | x :: r, acc => by
    show revF r (x :: acc) = _
    rw [revF_eq r (x :: acc)]
    simp
noncomputable def goLcD (g : Eg) (t : Et) (f : Ev) (env0 : Me) (l : List PyData) : List MV → Mh → Option (List MV × Mh) := List.rec (motive := fun _ => List MV → Mh → Option (List MV × Mh)) (fun acc hp => some (revF acc [], hp)) (fun x _ ih acc hp => match g (.d x) env0 hp with
    | none => none
    | some (e, h) => match t e h with
      | none => none
      | some (true, h) => match f e h with
        | none => none
        | some (y, h) => match Nat.ble sizeLine (lenF acc) with
          | true => none
          | false => ih (y :: acc) h
      | some (false, h) => ih acc h) l
noncomputable def goLcR (g : Eg) (t : Et) (f : Ev) (env0 : Me) (k : Nat) : Int → List MV → Mh → Option (List MV × Mh) := Nat.rec (motive := fun _ => Int → List MV → Mh → Option (List MV × Mh)) (fun _ acc hp => some (revF acc [], hp)) (fun _ ih i acc hp => fcI i fun i => match g (.d (.int i)) env0 hp with
    | none => none
    | some (e, h) => match t e h with
      | none => none
      | some (true, h) => match f e h with
        | none => none
        | some (y, h) => match Nat.ble sizeLine (lenF acc) with
          | true => none
          | false => ih (i + 1) (y :: acc) h
      | some (false, h) => ih (i + 1) acc h) k
theorem ble_lt {β γ : Type} {acc : List γ} {x : Option β} : (match Nat.ble sizeLine (lenF acc) with | true => none | false => x) = if acc.length < sizeLine then x else none := by
  rw [lenF_eq]
  cases h : Nat.ble sizeLine acc.length with
  | true => rw [if_neg (Nat.not_lt.mpr (Nat.le_of_ble_eq_true h))]
  | false => rw [if_pos (Nat.lt_of_not_le fun z => by rw [Nat.ble_eq_true_of_le z] at h; cases h)]
theorem goLcD_eq {g : Eg} {t : Et} {f : Ev} {env0 : Me} {y : MV} {ds : List PyData} (hy : ∀ hp, seqOf y hp = some (ds.map .d)) : ∀ (l : List PyData) (i : Nat) (acc : List MV) (hp : Mh), ds.drop i = l → goLcD g t f env0 l acc hp = goLc (.seq y ds.length) g t f env0 l.length i acc.reverse hp
  | [], i, acc, hp, hd => by
    show _ = (if (Src.seq y ds.length).stop hp = true then some (acc.reverse, hp) else none)
    have : (Src.seq y ds.length).stop hp = true := by
      show (match seqOf y hp with | some xs => decide (xs.length = ds.length) | none => false) = true
      rw [hy]
      simp
    rw [if_pos this]
    show some (revF acc [], hp) = _
    rw [revF_eq, List.append_nil]
  | x :: r, i, acc, hp, hd => by
    have hx : ds[i]? = some x := by
      have := congrArg (fun l => l[0]?) hd
      simpa using this
    have hr : ds.drop (i + 1) = r := by
      rw [← List.drop_drop, hd]
      rfl
    have ha : (Src.seq y ds.length).at i hp = some (.d x) := by
      show (match seqOf y hp with | some xs => if xs.length = ds.length then xs[i]? else none | none => none) = _
      rw [hy]
      show (if (ds.map MV.d).length = ds.length then (ds.map MV.d)[i]? else none) = _
      rw [if_pos (by simp), List.getElem?_map, hx]
      rfl
    show _ = ((Src.seq y ds.length).at i hp).bind _
    rw [ha]
    show (match g (.d x) env0 hp with | none => none | some (e, h) => match t e h with | none => none | some (true, h) => (match f e h with | none => none | some (y, h) => match Nat.ble sizeLine (lenF acc) with | true => none | false => goLcD g t f env0 r (y :: acc) h) | some (false, h) => goLcD g t f env0 r acc h) = (g (.d x) env0 hp).bind _
    simp only [ble_lt]
    cases g (.d x) env0 hp with
    | none => rfl
    | some p =>
      show (match t p.1 p.2 with | none => none | some (true, h) => (match f p.1 h with | none => none | some (y, h) => if acc.length < sizeLine then goLcD g t f env0 r (y :: acc) h else none) | some (false, h) => goLcD g t f env0 r acc h) = (t p.1 p.2).bind _
      cases t p.1 p.2 with
      | none => rfl
      | some q =>
        obtain ⟨c, h⟩ := q
        cases c with
        | false => exact goLcD_eq hy r (i + 1) acc h hr
        | true =>
          show (match f p.1 h with | none => none | some (y, h) => if acc.length < sizeLine then goLcD g t f env0 r (y :: acc) h else none) = (f p.1 h).bind _
          cases f p.1 h with
          | none => rfl
          | some z =>
            show (if acc.length < sizeLine then goLcD g t f env0 r (z.1 :: acc) z.2 else none) = (if acc.reverse.length < sizeLine then goLc (Src.seq y ds.length) g t f env0 r.length (i + 1) (acc.reverse ++ [z.1]) z.2 else none)
            rw [List.length_reverse, goLcD_eq hy r (i + 1) (z.1 :: acc) z.2 hr, List.reverse_cons]
theorem goLcR_eq {g : Eg} {t : Et} {f : Ev} {env0 : Me} {lo : Int} {n : Nat} : ∀ (k i : Nat) (acc : List MV) (hp : Mh), i + k ≤ n → goLcR g t f env0 k (lo + i) acc hp = goLc (.rng lo n) g t f env0 k i acc.reverse hp
  | 0, i, acc, hp, _ => by
    show some (revF acc [], hp) = some (acc.reverse, hp)
    rw [revF_eq, List.append_nil]
  | k + 1, i, acc, hp, hi => by
    have e1 : lo + (i : Int) + 1 = lo + ((i + 1 : Nat) : Int) := by omega
    have ha : (Src.rng lo n).at i hp = some (.d (.int (lo + (i : Int)))) := by
      show (if i < n then some (MV.d (.int (lo + (i : Int)))) else none) = _
      rw [if_pos (by omega)]
    unfold goLc
    show (fcI (lo + (i : Int)) fun i => match g (.d (.int i)) env0 hp with | none => none | some (e, h) => match t e h with | none => none | some (true, h) => (match f e h with | none => none | some (y, h) => match Nat.ble sizeLine (lenF acc) with | true => none | false => goLcR g t f env0 k (i + 1) (y :: acc) h) | some (false, h) => goLcR g t f env0 k (i + 1) acc h) = _
    rw [fcI_eq, ha]
    simp only [ble_lt]
    show _ = (g (.d (.int (lo + (i : Int)))) env0 hp).bind _
    cases g (.d (.int (lo + (i : Int)))) env0 hp with
    | none => rfl
    | some p =>
      show (match t p.1 p.2 with | none => none | some (true, h) => (match f p.1 h with | none => none | some (y, h) => if acc.length < sizeLine then goLcR g t f env0 k (lo + (i : Int) + 1) (y :: acc) h else none) | some (false, h) => goLcR g t f env0 k (lo + (i : Int) + 1) acc h) = (t p.1 p.2).bind _
      rw [e1]
      cases t p.1 p.2 with
      | none => rfl
      | some q =>
        obtain ⟨c, h⟩ := q
        cases c with
        | false => exact goLcR_eq k (i + 1) acc h (by omega)
        | true =>
          show (match f p.1 h with | none => none | some (y, h) => if acc.length < sizeLine then goLcR g t f env0 k (lo + ((i + 1 : Nat) : Int)) (y :: acc) h else none) = (f p.1 h).bind _
          cases f p.1 h with
          | none => rfl
          | some z =>
            show (if acc.length < sizeLine then goLcR g t f env0 k (lo + ((i + 1 : Nat) : Int)) (z.1 :: acc) z.2 else none) = (if acc.reverse.length < sizeLine then goLc (.rng lo n) g t f env0 k (i + 1) (acc.reverse ++ [z.1]) z.2 else none)
            rw [List.length_reverse, goLcR_eq (n := n) k (i + 1) (z.1 :: acc) z.2 (by omega), List.reverse_cons]
noncomputable def fcE {α : Type} (e : Me) (k : Me → α) : α := fcL e k
noncomputable def evLcF (it : Ei) (g : Eg) (t : Et) (f : Ev) (vs : List Nat) : Er := fun env hp => match it env hp with
  | none => none
  | some (s, h) => fcL (wipeE env vs) fun e0 => match (match s with
      | .rng lo n => goLcR g t f e0 n lo [] h
      | .seq (.d (.list ds)) n => if n = ds.length then goLcD g t f e0 ds [] h else goLc s g t f e0 n 0 [] h
      | .seq (.d (.tuple ds)) n => if n = ds.length then goLcD g t f e0 ds [] h else goLc s g t f e0 n 0 [] h
      | s => goLc s g t f e0 s.size 0 [] h) with
    | none => none
    | some (xs, h) => some (.l xs, h)
theorem evLcF_eq : evLcF = evLc := by
  funext it g t f vs env hp
  unfold evLcF evLc
  simp only [fcL_eq]
  cases it env hp with
  | none => rfl
  | some p =>
    obtain ⟨s, h⟩ := p
    have key : (match s with
      | .rng lo n => goLcR g t f (wipeE env vs) n lo [] h
      | .seq (.d (.list ds)) n => if n = ds.length then goLcD g t f (wipeE env vs) ds [] h else goLc s g t f (wipeE env vs) n 0 [] h
      | .seq (.d (.tuple ds)) n => if n = ds.length then goLcD g t f (wipeE env vs) ds [] h else goLc s g t f (wipeE env vs) n 0 [] h
      | s => goLc s g t f (wipeE env vs) s.size 0 [] h) = goLc s g t f (wipeE env vs) s.size 0 [] h := by
      cases s with
      | rng lo n =>
        have := goLcR_eq (g := g) (t := t) (f := f) (env0 := wipeE env vs) (lo := lo) (n := n) n 0 [] h (by omega)
        rw [show lo + ((0 : Nat) : Int) = lo by omega] at this
        exact this
      | seq x n =>
        have key : ∀ {ds : List PyData}, (∀ hp, seqOf x hp = some (ds.map .d)) → (if n = ds.length then goLcD g t f (wipeE env vs) ds [] h else goLc (.seq x n) g t f (wipeE env vs) n 0 [] h) = goLc (.seq x n) g t f (wipeE env vs) n 0 [] h := by
          intro ds hx
          split
          · rename_i hn
            subst hn
            exact goLcD_eq hx ds 0 [] h rfl
          · rfl
        cases x with
        | d y =>
          cases y with
          | list ds => exact key fun _ => rfl
          | tuple ds => exact key fun _ => rfl
          | _ => rfl
        | c n => rfl
        | k t => rfl
    show (match (match s with
      | .rng lo n => goLcR g t f (wipeE env vs) n lo [] h
      | .seq (.d (.list ds)) n => if n = ds.length then goLcD g t f (wipeE env vs) ds [] h else goLc s g t f (wipeE env vs) n 0 [] h
      | .seq (.d (.tuple ds)) n => if n = ds.length then goLcD g t f (wipeE env vs) ds [] h else goLc s g t f (wipeE env vs) n 0 [] h
      | s => goLc s g t f (wipeE env vs) s.size 0 [] h) with | none => none | some (xs, h) => some (R.l xs, h)) = (goLc s g t f (wipeE env vs) s.size 0 [] h).bind _
    rw [key]
    cases goLc s g t f (wipeE env vs) s.size 0 [] h <;> rfl

/-! ### a def's run -/
noncomputable def nones (n : Nat) : Me := Nat.rec (motive := fun _ => Me) [] (fun _ ih => none :: ih) n
theorem nones_eq : ∀ n, nones n = List.replicate n none
  | 0 => rfl
  | n + 1 => congrArg (_ :: ·) (nones_eq n)
noncomputable def startF (as : List MV) : Nat → Me := List.rec (motive := fun _ => Nat → Me) (fun n => nones n) (fun a _ ih n => some a :: ih (n - 1)) as
theorem startF_eq : ∀ (as : List MV) (n : Nat), startF as n = as.map some ++ List.replicate (n - as.length) none
  | [], n => nones_eq n
  | a :: r, n => by
    show some a :: startF r (n - 1) = _
    rw [startF_eq r (n - 1)]
    show some a :: _ = some a :: (r.map some ++ _)
    rw [show n - 1 - r.length = n - (a :: r).length by simp; omega]
noncomputable def takeF {β : Type} (xs : List β) : Nat → List β := List.rec (motive := fun _ => Nat → List β) (fun _ => []) (fun x _ ih n => Nat.rec (motive := fun _ => List β) [] (fun n _ => x :: ih n) n) xs
theorem takeF_eq {β : Type} : ∀ (xs : List β) (n : Nat), takeF xs n = xs.take n
  | [], n => by show [] = _; simp
  | x :: r, 0 => rfl
  | x :: r, n + 1 => by
    show x :: takeF r n = _
    rw [takeF_eq r n]
    rfl
noncomputable def runBodyF (f : ES) (nl : Nat) (as : List MV) (hp : Mh) : Option (MV × Mh) :=
  fcL (startF as nl) fun e => match f e hp with
  | some (.nx, _, hp') => fcL (takeF hp' (lenF hp)) fun h => some (.d .none, h)
  | some (.rt (.d x), _, hp') => fcL (takeF hp' (lenF hp)) fun h => some (.d x, h)
  | some (.rt (.c n), _, hp') => some (.c n, hp')
  | _ => none
theorem runBodyF_eq : runBodyF = runBody := by
  funext f nl as hp
  unfold runBodyF runBody
  simp only [fcL_eq, startF_eq, takeF_eq, lenF_eq]
  all_goals
    cases f (as.map some ++ List.replicate (nl - as.length) none) hp with
    | none => rfl
    | some p =>
      obtain ⟨o, e, h⟩ := p
      cases o with
      | rt x => cases x <;> rfl
      | _ => rfl
/-- defs' bodies by their places -/
structure Bd where
  b : Nat → (Nat → List MV → Mh → Option (MV × Mh)) → ES
  ar : Nat
  nl : Nat
noncomputable def fsem (Bs : List Bd) (m : Nat) (n : Nat) : Nat → List MV → Mh → Option (MV × Mh) := Nat.rec (motive := fun _ => Nat → List MV → Mh → Option (MV × Mh)) (fun _ _ _ => none) (fun _ ih k as hp => match nthF Bs k with
    | some B => match Nat.beq (lenF as) B.ar with
      | true => runBodyF (B.b m ih) B.nl as hp
      | false => none
    | none => none) n
theorem fsem_eq {T : List Fd} {gd : List (Str × MV)} {Bs : List Bd} {m : Nat} (H : Paired (fun (d : Fd) (B : Bd) => (∀ φ, bodyOf T gd m φ d = some (B.b m φ)) ∧ B.ar = d.ps.length ∧ B.nl = d.N.length) T Bs) : ∀ n, fsem Bs m n = sem T gd m n
  | 0 => rfl
  | n + 1 => by
    funext k as hp
    show (match nthF Bs k with
      | some B => match Nat.beq (lenF as) B.ar with
        | true => runBodyF (B.b m (fsem Bs m n)) B.nl as hp
        | false => none
      | none => none) = (match T[k]? with
      | some d => if as.length = d.ps.length then match bodyOf T gd m (sem T gd m n) d with
          | some f => runBody f d.N.length as hp
          | none => none
        else none
      | none => none)
    rw [fsem_eq H n, runBodyF_eq, nthF_eq]
    simp only [beq_if, lenF_eq]
    have hl := Paired.length H
    cases hd : T[k]? with
    | none =>
      have : Bs[k]? = none := by
        rw [List.getElem?_eq_none_iff] at hd ⊢
        omega
      rw [this]
    | some d =>
      obtain ⟨B, h1, h2, h3, h4⟩ := get_rep H hd
      rw [h1]
      simp only
      rw [h2, h3, h4]
end L2.MP
/-! MiniPy T: closed runs beside a law's run: fewer names. -/
namespace L2.MP
open PySem PySem.Spec PyProof.Rows

mutual
def deq : PyData → PyData → Bool
  | .none, .none => true
  | .bool a, .bool b => a == b
  | .int i, .int j => decide (i = j)
  | .str x, .str y => decide (x = y)
  | .list a, .list b => deqs a b
  | .tuple a, .tuple b => deqs a b
  | _, _ => false
def deqs : List PyData → List PyData → Bool
  | [], [] => true
  | x :: r, y :: s => deq x y && deqs r s
  | _, _ => false
end
mutual
theorem deq_ok : ∀ (a b : PyData), deq a b = true → a = b
  | .none, b, h => by cases b <;> first | rfl | (simp [deq] at h)
  | .bool x, b, h => by cases b <;> first | (simp [deq] at h; subst h; rfl) | (simp [deq] at h)
  | .int x, b, h => by cases b <;> first | (simp [deq] at h; subst h; rfl) | (simp [deq] at h)
  | .str x, b, h => by cases b <;> first | (simp [deq] at h; subst h; rfl) | (simp [deq] at h)
  | .list x, b, h => by
    cases b with
    | list y => rw [deqs_ok x y (by simpa [deq] using h)]
    | _ => simp [deq] at h
  | .tuple x, b, h => by
    cases b with
    | tuple y => rw [deqs_ok x y (by simpa [deq] using h)]
    | _ => simp [deq] at h
  | .dict x, b, h => by cases b <;> simp [deq] at h
theorem deqs_ok : ∀ (a b : List PyData), deqs a b = true → a = b
  | [], b, h => by cases b <;> first | rfl | (simp [deqs] at h)
  | x :: r, b, h => by
    cases b with
    | nil => simp [deqs] at h
    | cons y s =>
      simp only [deqs, Bool.and_eq_true] at h
      rw [deq_ok x y h.1, deqs_ok r s h.2]
end
/-- names of the one stand in the other, too -/
def subR : Me → Me → Bool
  | [], [] => true
  | none :: r, _ :: s => subR r s
  | some (.d x) :: r, some (.d y) :: s => deq x y && subR r s
  | _, _ => false
def subM (e' e : Me) : Bool := marked e' && subR (e'.drop 2) (e.drop 2)
theorem subR_ok : ∀ (r s : Me), subR r s = true → s.length = r.length ∧ ∀ (i : Nat) (x : MV), r[i]? = some (some x) → ∃ d, x = .d d ∧ s[i]? = some (some (.d d))
  | [], [], _ => ⟨rfl, fun i x q => by simp at q⟩
  | [], _ :: _, h => by simp [subR] at h
  | none :: r, [], h => by simp [subR] at h
  | some x :: r, [], h => by cases x <;> simp [subR] at h
  | none :: r, y :: s, h => by
    obtain ⟨h1, h2⟩ := subR_ok r s (by simpa [subR] using h)
    refine ⟨by simp [h1], fun i x q => ?_⟩
    cases i with
    | zero => cases q
    | succ i => exact h2 i x q
  | some (.d x) :: r, y :: s, h => by
    cases y with
    | none => simp [subR] at h
    | some y =>
      cases y with
      | d y =>
        simp only [subR, Bool.and_eq_true] at h
        obtain ⟨h1, h2⟩ := subR_ok r s h.2
        refine ⟨by simp [h1], fun i z q => ?_⟩
        cases i with
        | zero => cases q; exact ⟨x, rfl, by rw [deq_ok x y h.1]; rfl⟩
        | succ i => exact h2 i z q
      | c n => simp [subR] at h
      | k t => simp [subR] at h
  | some (.c n) :: r, y :: s, h => by cases y <;> simp [subR] at h
  | some (.k n) :: r, y :: s, h => by cases y <;> simp [subR] at h
def keepE (S : List Nat) (e : Me) : Me := go 0 e
where go (i : Nat) : Me → Me
  | [] => []
  | x :: r => (if i < 2 ∨ S.contains i = true then x else none) :: go (i + 1) r
section
variable {sc : PyData} {env e e' : Me} {hp h : Mh}
theorem At.weaken (A : At sc env hp e h) (q : subM e' e = true) : At sc env hp e' [] := by
  unfold subM at q
  rw [Bool.and_eq_true] at q
  obtain ⟨m0, m1⟩ := marked_ok q.1
  obtain ⟨h1, h2⟩ := subR_ok _ _ q.2
  obtain ⟨k, c, S⟩ := A.st
  have L := A.len
  have l0 := (List.getElem?_eq_some_iff.mp m1).1
  have l1 := (List.getElem?_eq_some_iff.mp A.m1).1
  rw [List.length_drop, List.length_drop] at h1
  obtain ⟨t, O, hh, T0, T1, _⟩ := A.ex
  refine ⟨⟨⟨hp, t.τ⟩, ⟨by omega, fun i x z => ?_⟩, by simp [Tr.h], T0, T1, k, c, S⟩, m0, m1⟩
  match i, z with
  | 0, z =>
    rw [m0] at z
    cases z
    rw [A.v0]
    show _ = some (some (t.τ [(.int 0, .none)]))
    rw [T0]
  | 1, z =>
    rw [m1] at z
    cases z
    rw [A.v1]
    show _ = some (some (t.τ [(.int 1, .none)]))
    rw [T1]
  | i + 2, z =>
    obtain ⟨d, rfl, z2⟩ := h2 i x (by rw [List.getElem?_drop, Nat.add_comm]; exact z)
    rw [List.getElem?_drop, Nat.add_comm] at z2
    rw [O.2 _ _ z2]
    rfl
end
end L2.MP
/-! Law k73: the text. -/
namespace L2.MP.K73
open PySem PySem.Spec PyProof.Rows L2.MP

def stAt (i : Nat) : Stmt := (PySem.Challenge.pw_ornamentwright_k73_whole_triangles.main.body[i]?).getD (.Pass ⟨0, 0, 0, 0⟩)
def d_lowest : Fd := { x := "lowest", st := stAt 1, N := ["above", "below", "one", "other"], ps := ["above", "below"], mks := [], rf := [] }
def d_excess : Fd := { x := "excess", st := stAt 2, N := ["p", "q", "r"], ps := ["p", "q", "r"], mks := [], rf := [] }
def d_kind_of_triangle : Fd := { x := "kind_of_triangle", st := stAt 3, N := ["p", "q", "r", "above"], ps := ["p", "q", "r"], mks := [], rf := [] }
def d_sphere_order : Fd := { x := "sphere_order", st := stAt 4, N := ["p", "q", "r", "above", "below"], ps := ["p", "q", "r"], mks := [], rf := [] }
def d_all_triangles : Fd := { x := "all_triangles", st := stAt 5, N := ["kind", "most", "told", "p", "q", "r"], ps := ["kind", "most"], mks := [(16, 11)], rf := [] }
def d_least_saddles : Fd := { x := "least_saddles", st := stAt 6, N := ["many", "most", "rows", "triple", "told", "best", "one", "above", "below"], ps := ["many", "most"], mks := [(24, 11), (28, 11)], rf := [] }
def d_sphere_names : Fd := { x := "sphere_names", st := stAt 7, N := ["p", "q", "above"], ps := ["p", "q"], mks := [], rf := [] }
def d__law_refill : Fd := { x := "_law_refill", st := stAt 9, N := ["script", "k", "cell"], ps := ["script", "k"], mks := [], rf := [] }
def d__law_draw : Fd := { x := "_law_draw", st := stAt 10, N := ["state", "script", "size", "digit"], ps := ["state", "script", "size"], mks := [], rf := [0] }
def d__law_exact : Fd := { x := "_law_exact", st := stAt 11, N := ["first", "second", "alike", "k"], ps := ["first", "second"], mks := [], rf := [] }
def d__law_lowest : Fd := { x := "_law_lowest", st := stAt 12, N := ["above", "below", "sign", "one", "other", "rest"], ps := ["above", "below"], mks := [], rf := [] }
def d__law_excess : Fd := { x := "_law_excess", st := stAt 13, N := ["p", "q", "r"], ps := ["p", "q", "r"], mks := [], rf := [] }
def d_law : Fd := { x := "law", st := stAt 14, N := ["script", "state", "k", "due", "kind", "order", "most", "rows", "a", "word", "mine", "row", "told", "left", "one", "solid", "p", "q", "r", "b", "part", "many", "areas", "c", "two"], ps := ["script"], mks := [(77, 12), (104, 15)], rf := [] }
def T : List Fd := [d_lowest, d_excess, d_kind_of_triangle, d_sphere_order, d_all_triangles, d_least_saddles, d_sphere_names, d__law_refill, d__law_draw, d__law_exact, d__law_lowest, d__law_excess, d_law]
abbrev F0 : Type := Nat → List MV → Mh → Option (MV × Mh)
noncomputable def b_lowest (m : Nat) (φ : F0) : ES := (sqC
  (esParF (evC ((evStF (evBltF absM (evC ((evVarF 0)) evN)))) (evC ((evVarF 1)) evN)) (egC ((egNameF 2)) (egC ((egNameF 3)) egN))) (sqC
  (goWhileF (evCmpF (cmpMF .Gt) (evVarF 3) (ki 0)) (sqC
    (esParF (evC ((evVarF 3)) (evC ((evStF (evBinF opMod (evVarF 2) (evVarF 3)))) evN)) (egC ((egNameF 2)) (egC ((egNameF 3)) egN))) sqN) m) (sqC
  (esRetF (evFzF (evTupF (evC (evFzF (evStF (evBinF opDiv (evVarF 0) (evVarF 2)))) (evC (evFzF (evStF (evBinF opDiv (evVarF 1) (evVarF 2)))) evN))))) sqN)))
theorem bk_lowest (m : Nat) (φ : F0) : bodyOf T [] m φ d_lowest = some (b_lowest m φ) := by
  unfold b_lowest
  simp only [opMulF_eq, cmpMF_eq, evN_eq, evC_eq, egN_eq, egC_eq, sqN_eq, sqC_eq, evVarF_eq, evFzF_eq, evStF_eq, evMkF_eq, evBinF_eq, evUnF_eq, evBltF_eq, evCmpF_eq, evOfTF_eq, etTruF_eq, etNotF_eq, etAndF_eq, etOrF_eq, evIfF_eq, evAndF_eq, evOrF_eq, evTupF_eq, evLstF_eq, evCallF_eq, evMtF_eq, evIsiF_eq, egNameF_eq, egTupF_eq, esAsgF_eq, esParF_eq, esExprF_eq, esRetF_eq, esIfF_eq, goWhileF_eq, eiSeqF_eq, eiRng1F_eq, eiRng2F_eq, esForF_eq, evLcF_eq]
  kernel_rfl
noncomputable def b_excess (m : Nat) (φ : F0) : ES := (sqC
  (esRetF (evFzF (evCallF (φ 0) (evC (evFzF (evStF (evBinF opSub (evStF (evBinF opAdd (evStF (evBinF opAdd (evStF (evBinF opMulF (evVarF 1) (evVarF 2))) (evStF (evBinF opMulF (evVarF 0) (evVarF 2))))) (evStF (evBinF opMulF (evVarF 0) (evVarF 1))))) (evStF (evBinF opMulF (evStF (evBinF opMulF (evVarF 0) (evVarF 1))) (evVarF 2)))))) (evC (evFzF (evStF (evBinF opMulF (evStF (evBinF opMulF (evVarF 0) (evVarF 1))) (evVarF 2)))) evN))))) sqN)
theorem bk_excess (m : Nat) (φ : F0) : bodyOf T [] m φ d_excess = some (b_excess m φ) := by
  unfold b_excess
  simp only [opMulF_eq, cmpMF_eq, evN_eq, evC_eq, egN_eq, egC_eq, sqN_eq, sqC_eq, evVarF_eq, evFzF_eq, evStF_eq, evMkF_eq, evBinF_eq, evUnF_eq, evBltF_eq, evCmpF_eq, evOfTF_eq, etTruF_eq, etNotF_eq, etAndF_eq, etOrF_eq, evIfF_eq, evAndF_eq, evOrF_eq, evTupF_eq, evLstF_eq, evCallF_eq, evMtF_eq, evIsiF_eq, egNameF_eq, egTupF_eq, esAsgF_eq, esParF_eq, esExprF_eq, esRetF_eq, esIfF_eq, goWhileF_eq, eiSeqF_eq, eiRng1F_eq, eiRng2F_eq, esForF_eq, evLcF_eq]
  kernel_rfl
noncomputable def b_kind_of_triangle (m : Nat) (φ : F0) : ES := (sqC
  (esAsgF (evStF (evBinF ixM (evCallF (φ 1) (evC (evFzF (evVarF 0)) (evC (evFzF (evVarF 1)) (evC (evFzF (evVarF 2)) evN)))) (ki 0))) (egNameF 3)) (sqC
  (esRetF (evFzF (evIfF (evCmpF (cmpMF .Gt) (evVarF 3) (ki 0)) (ks [115, 112, 104, 101, 114, 101]) (evIfF (evCmpF (cmpMF .Eq) (evVarF 3) (ki 0)) (ks [112, 108, 97, 110, 101]) (ks [115, 97, 100, 100, 108, 101]))))) sqN))
theorem bk_kind_of_triangle (m : Nat) (φ : F0) : bodyOf T [] m φ d_kind_of_triangle = some (b_kind_of_triangle m φ) := by
  unfold b_kind_of_triangle
  simp only [opMulF_eq, cmpMF_eq, evN_eq, evC_eq, egN_eq, egC_eq, sqN_eq, sqC_eq, evVarF_eq, evFzF_eq, evStF_eq, evMkF_eq, evBinF_eq, evUnF_eq, evBltF_eq, evCmpF_eq, evOfTF_eq, etTruF_eq, etNotF_eq, etAndF_eq, etOrF_eq, evIfF_eq, evAndF_eq, evOrF_eq, evTupF_eq, evLstF_eq, evCallF_eq, evMtF_eq, evIsiF_eq, egNameF_eq, egTupF_eq, esAsgF_eq, esParF_eq, esExprF_eq, esRetF_eq, esIfF_eq, goWhileF_eq, eiSeqF_eq, eiRng1F_eq, eiRng2F_eq, esForF_eq, evLcF_eq]
  kernel_rfl
noncomputable def b_sphere_order (m : Nat) (φ : F0) : ES := (sqC
  (esAsgF (evCallF (φ 1) (evC (evFzF (evVarF 0)) (evC (evFzF (evVarF 1)) (evC (evFzF (evVarF 2)) evN)))) (egTupF (egC ((egNameF 3)) (egC ((egNameF 4)) egN)))) (sqC
  (esRetF (evFzF (evIfF (evCmpF (cmpMF .Gt) (evVarF 3) (ki 0)) (evStF (evBinF opDiv (evStF (evBinF opMulF (ki 4) (evVarF 4))) (evVarF 3))) (evK (.d .none))))) sqN))
theorem bk_sphere_order (m : Nat) (φ : F0) : bodyOf T [] m φ d_sphere_order = some (b_sphere_order m φ) := by
  unfold b_sphere_order
  simp only [opMulF_eq, cmpMF_eq, evN_eq, evC_eq, egN_eq, egC_eq, sqN_eq, sqC_eq, evVarF_eq, evFzF_eq, evStF_eq, evMkF_eq, evBinF_eq, evUnF_eq, evBltF_eq, evCmpF_eq, evOfTF_eq, etTruF_eq, etNotF_eq, etAndF_eq, etOrF_eq, evIfF_eq, evAndF_eq, evOrF_eq, evTupF_eq, evLstF_eq, evCallF_eq, evMtF_eq, evIsiF_eq, egNameF_eq, egTupF_eq, esAsgF_eq, esParF_eq, esExprF_eq, esRetF_eq, esIfF_eq, goWhileF_eq, eiSeqF_eq, eiRng1F_eq, eiRng2F_eq, esForF_eq, evLcF_eq]
  kernel_rfl
noncomputable def b_all_triangles (m : Nat) (φ : F0) : ES := (sqC
  (esAsgF (evMkF (evLstF evN)) (egNameF 2)) (sqC
  (esForF (eiRng2F (ki 2) (evStF (evBinF opAdd (evVarF 1) (ki 1)))) (egNameF 3) (sqC
    (esForF (eiRng2F (evVarF 3) (evStF (evBinF opAdd (evVarF 1) (ki 1)))) (egNameF 4) (sqC
      (esForF (eiRng2F (evVarF 4) (evStF (evBinF opAdd (evVarF 1) (ki 1)))) (egNameF 5) (sqC
        (esIfF (evCmpF (cmpMF .Eq) (evCallF (φ 2) (evC (evFzF (evVarF 3)) (evC (evFzF (evVarF 4)) (evC (evFzF (evVarF 5)) evN)))) (evVarF 0)) (sqC
          (esExprF (evMtF appendM (evVarF 2) (evC (evFzF (evTupF (evC (evFzF (evVarF 3)) (evC (evFzF (evVarF 4)) (evC (evFzF (evVarF 5)) evN))))) evN))) sqN) sqN) sqN)) sqN)) sqN)) (sqC
  (esRetF (evFzF (evVarF 2))) sqN)))
theorem bk_all_triangles (m : Nat) (φ : F0) : bodyOf T [] m φ d_all_triangles = some (b_all_triangles m φ) := by
  unfold b_all_triangles
  simp only [opMulF_eq, cmpMF_eq, evN_eq, evC_eq, egN_eq, egC_eq, sqN_eq, sqC_eq, evVarF_eq, evFzF_eq, evStF_eq, evMkF_eq, evBinF_eq, evUnF_eq, evBltF_eq, evCmpF_eq, evOfTF_eq, etTruF_eq, etNotF_eq, etAndF_eq, etOrF_eq, evIfF_eq, evAndF_eq, evOrF_eq, evTupF_eq, evLstF_eq, evCallF_eq, evMtF_eq, evIsiF_eq, egNameF_eq, egTupF_eq, esAsgF_eq, esParF_eq, esExprF_eq, esRetF_eq, esIfF_eq, goWhileF_eq, eiSeqF_eq, eiRng1F_eq, eiRng2F_eq, esForF_eq, evLcF_eq]
  kernel_rfl
noncomputable def b_least_saddles (m : Nat) (φ : F0) : ES := (sqC
  (esAsgF (evMkF (evLstF evN)) (egNameF 2)) (sqC
  (esForF (eiSeqF (evCallF (φ 4) (evC (evFzF (ks [115, 97, 100, 100, 108, 101])) (evC (evFzF (evVarF 1)) evN)))) (egNameF 3) (sqC
    (esAsgF (evCallF (φ 1) (evC (evFzF (evStF (evBinF ixM (evVarF 3) (ki 0)))) (evC (evFzF (evStF (evBinF ixM (evVarF 3) (ki 1)))) (evC (evFzF (evStF (evBinF ixM (evVarF 3) (ki 2)))) evN)))) (egTupF (egC ((egNameF 7)) (egC ((egNameF 8)) egN)))) (sqC
    (esExprF (evMtF appendM (evVarF 2) (evC (evFzF (evTupF (evC (evFzF (evTupF (evC (evFzF (evStF (evUnF negM (evVarF 7)))) (evC (evFzF (evVarF 8)) evN)))) (evC (evFzF (evVarF 3)) evN)))) evN))) sqN))) (sqC
  (esAsgF (evMkF (evLstF evN)) (egNameF 4)) (sqC
  (goWhileF (etAndF (evCmpF (cmpMF .Lt) (evStF (evBltF lenM (evC ((evVarF 4)) evN))) (evVarF 0)) (etTruF (evVarF 2))) (sqC
    (esAsgF (evStF (evBinF ixM (evVarF 2) (ki 0))) (egNameF 5)) (sqC
    (esForF (eiSeqF (evStF (evSl (evVarF 2) (some (ki 1)) none))) (egNameF 6) (sqC
      (esIfF (evCmpF (cmpMF .Lt) (evStF (evBinF opMulF (evStF (evBinF ixM (evStF (evBinF ixM (evVarF 6) (ki 0))) (ki 0))) (evStF (evBinF ixM (evStF (evBinF ixM (evVarF 5) (ki 0))) (ki 1))))) (evStF (evBinF opMulF (evStF (evBinF ixM (evStF (evBinF ixM (evVarF 5) (ki 0))) (ki 0))) (evStF (evBinF ixM (evStF (evBinF ixM (evVarF 6) (ki 0))) (ki 1)))))) (sqC
        (esAsgF (evVarF 6) (egNameF 5)) sqN) sqN) sqN)) (sqC
    (esExprF (evMtF appendM (evVarF 4) (evC (evFzF (evVarF 5)) evN))) (sqC
    (esExprF (evMtF removeM (evVarF 2) (evC (evFzF (evVarF 5)) evN))) sqN)))) m) (sqC
  (esRetF (evFzF (evVarF 4))) sqN)))))
theorem bk_least_saddles (m : Nat) (φ : F0) : bodyOf T [] m φ d_least_saddles = some (b_least_saddles m φ) := by
  unfold b_least_saddles
  simp only [opMulF_eq, cmpMF_eq, evN_eq, evC_eq, egN_eq, egC_eq, sqN_eq, sqC_eq, evVarF_eq, evFzF_eq, evStF_eq, evMkF_eq, evBinF_eq, evUnF_eq, evBltF_eq, evCmpF_eq, evOfTF_eq, etTruF_eq, etNotF_eq, etAndF_eq, etOrF_eq, evIfF_eq, evAndF_eq, evOrF_eq, evTupF_eq, evLstF_eq, evCallF_eq, evMtF_eq, evIsiF_eq, egNameF_eq, egTupF_eq, esAsgF_eq, esParF_eq, esExprF_eq, esRetF_eq, esIfF_eq, goWhileF_eq, eiSeqF_eq, eiRng1F_eq, eiRng2F_eq, esForF_eq, evLcF_eq]
  kernel_rfl
noncomputable def b_sphere_names (m : Nat) (φ : F0) : ES := (sqC
  (esAsgF (evStF (evBinF opSub (ki 4) (evStF (evBinF opMulF (evStF (evBinF opSub (evVarF 0) (ki 2))) (evStF (evBinF opSub (evVarF 1) (ki 2))))))) (egNameF 2)) (sqC
  (esRetF (evFzF (evIfF (evCmpF (cmpMF .Gt) (evVarF 2) (ki 0)) (evTupF (evC (evFzF (evStF (evBinF opDiv (evStF (evBinF opMulF (ki 4) (evVarF 1))) (evVarF 2)))) (evC (evFzF (evStF (evBinF opDiv (evStF (evBinF opMulF (evStF (evBinF opMulF (ki 2) (evVarF 0))) (evVarF 1))) (evVarF 2)))) (evC (evFzF (evStF (evBinF opDiv (evStF (evBinF opMulF (ki 4) (evVarF 0))) (evVarF 2)))) evN)))) (evK (.d .none))))) sqN))
theorem bk_sphere_names (m : Nat) (φ : F0) : bodyOf T [] m φ d_sphere_names = some (b_sphere_names m φ) := by
  unfold b_sphere_names
  simp only [opMulF_eq, cmpMF_eq, evN_eq, evC_eq, egN_eq, egC_eq, sqN_eq, sqC_eq, evVarF_eq, evFzF_eq, evStF_eq, evMkF_eq, evBinF_eq, evUnF_eq, evBltF_eq, evCmpF_eq, evOfTF_eq, etTruF_eq, etNotF_eq, etAndF_eq, etOrF_eq, evIfF_eq, evAndF_eq, evOrF_eq, evTupF_eq, evLstF_eq, evCallF_eq, evMtF_eq, evIsiF_eq, egNameF_eq, egTupF_eq, esAsgF_eq, esParF_eq, esExprF_eq, esRetF_eq, esIfF_eq, goWhileF_eq, eiSeqF_eq, eiRng1F_eq, eiRng2F_eq, esForF_eq, evLcF_eq]
  kernel_rfl
noncomputable def b__law_refill (m : Nat) (φ : F0) : ES := (sqC
  (esAsgF (ki 0) (egNameF 2)) (sqC
  (esIfF (etTruF (evVarF 0)) (sqC
    (esAsgF (evStF (evBinF ixM (evVarF 0) (evStF (evBinF opMod (evVarF 1) (evStF (evBltF lenM (evC ((evVarF 0)) evN))))))) (egNameF 2)) sqN) sqN) (sqC
  (esIfF (evCmpF (cmpMF .Lt) (evVarF 2) (ki 0)) (sqC
    (esAsgF (evStF (evBinF opSub (ki 1) (evStF (evBinF opMulF (ki 2) (evVarF 2))))) (egNameF 2)) sqN) sqN) (sqC
  (esIfF (etAndF (evCmpF (cmpMF .GtE) (evVarF 2) (evStF (evBinF opPow (ki 10) (ki 18)))) (evCmpF (cmpMF .Lt) (evVarF 1) (evStF (evBltF lenM (evC ((evVarF 0)) evN))))) (sqC
    (esRetF (evFzF (evVarF 2))) sqN) sqN) (sqC
  (esRetF (evFzF (evStF (evBinF opMod (evStF (evBltF intM (evC ((evStF (evBinF opAdd (evStF (evBinF opMulF (evStF (evBltF intM (evC ((evStF (evBinF opAdd (evStF (evBinF opAdd (evStF (evBinF opMulF (evVarF 2) (ki 48271))) (evStF (evBinF opMulF (evVarF 1) (ki 69621))))) (ki 12345)))) evN))) (ki 40692))) (ki 7)))) evN))) (ki 2147483399))))) sqN)))))
theorem bk__law_refill (m : Nat) (φ : F0) : bodyOf T [] m φ d__law_refill = some (b__law_refill m φ) := by
  unfold b__law_refill
  simp only [opMulF_eq, cmpMF_eq, evN_eq, evC_eq, egN_eq, egC_eq, sqN_eq, sqC_eq, evVarF_eq, evFzF_eq, evStF_eq, evMkF_eq, evBinF_eq, evUnF_eq, evBltF_eq, evCmpF_eq, evOfTF_eq, etTruF_eq, etNotF_eq, etAndF_eq, etOrF_eq, evIfF_eq, evAndF_eq, evOrF_eq, evTupF_eq, evLstF_eq, evCallF_eq, evMtF_eq, evIsiF_eq, egNameF_eq, egTupF_eq, esAsgF_eq, esParF_eq, esExprF_eq, esRetF_eq, esIfF_eq, goWhileF_eq, eiSeqF_eq, eiRng1F_eq, eiRng2F_eq, esForF_eq, evLcF_eq]
  kernel_rfl
noncomputable def b__law_draw (m : Nat) (φ : F0) : ES := (sqC
  (esIfF (evCmpF (cmpMF .Eq) (evStF (evBinF ixM (evVarF 0) (ki 1))) (ki 0)) (sqC
    (esAsgF (evCallF (φ 7) (evC (evFzF (evVarF 1)) (evC (evFzF (evStF (evBinF ixM (evVarF 0) (ki 0)))) evN))) (egSub (evVarF 0) (ki 1))) (sqC
    (esAsgF (evStF (evBinF opAdd (evStF (evBinF ixM (evVarF 0) (ki 0))) (ki 1))) (egSub (evVarF 0) (ki 0))) sqN)) sqN) (sqC
  (esAsgF (evStF (evBinF opMod (evStF (evBltF intM (evC ((evStF (evBinF ixM (evVarF 0) (ki 1)))) evN))) (evVarF 2))) (egNameF 3)) (sqC
  (esAsgF (evStF (evBinF opDiv (evStF (evBinF ixM (evVarF 0) (ki 1))) (evVarF 2))) (egSub (evVarF 0) (ki 1))) (sqC
  (esRetF (evFzF (evVarF 3))) sqN))))
theorem bk__law_draw (m : Nat) (φ : F0) : bodyOf T [] m φ d__law_draw = some (b__law_draw m φ) := by
  unfold b__law_draw
  simp only [opMulF_eq, cmpMF_eq, evN_eq, evC_eq, egN_eq, egC_eq, sqN_eq, sqC_eq, evVarF_eq, evFzF_eq, evStF_eq, evMkF_eq, evBinF_eq, evUnF_eq, evBltF_eq, evCmpF_eq, evOfTF_eq, etTruF_eq, etNotF_eq, etAndF_eq, etOrF_eq, evIfF_eq, evAndF_eq, evOrF_eq, evTupF_eq, evLstF_eq, evCallF_eq, evMtF_eq, evIsiF_eq, egNameF_eq, egTupF_eq, esAsgF_eq, esParF_eq, esExprF_eq, esRetF_eq, esIfF_eq, goWhileF_eq, eiSeqF_eq, eiRng1F_eq, eiRng2F_eq, esForF_eq, evLcF_eq]
  kernel_rfl
noncomputable def b__law_exact (m : Nat) (φ : F0) : ES := (sqC
  (esIfF (etTruF (evIsiF (evVarF 0) ["list", "tuple"])) (sqC
    (esIfF (etOrF (evCmpF (cmpMF .NotEq) (evIsiF (evVarF 0) ["list"]) (evIsiF (evVarF 1) ["list"])) (evCmpF (cmpMF .NotEq) (evIsiF (evVarF 0) ["tuple"]) (evIsiF (evVarF 1) ["tuple"]))) (sqC
      (esRetF (evFzF (evK (.d (.bool false))))) sqN) sqN) (sqC
    (esRetF (evFzF (evAndF (evOfTF (evCmpF (cmpMF .Eq) (evStF (evBltF lenM (evC ((evVarF 0)) evN))) (evStF (evBltF lenM (evC ((evVarF 1)) evN))))) (evStF (evBltF allM (evC ((evStF (evLcF (eiRng1F (evStF (evBltF lenM (evC ((evVarF 0)) evN)))) (egNameF 3) etYes (evCallF (φ 9) (evC (evFzF (evStF (evBinF ixM (evVarF 0) (evVarF 3)))) (evC (evFzF (evStF (evBinF ixM (evVarF 1) (evVarF 3)))) evN))) [3]))) evN)))))) sqN)) sqN) (sqC
  (esIfF (etOrF (evCmpF (cmpMF .Is) (evVarF 0) (evK (.d .none))) (evCmpF (cmpMF .Is) (evVarF 1) (evK (.d .none)))) (sqC
    (esRetF (evFzF (evAndF (evOfTF (evCmpF (cmpMF .Is) (evVarF 0) (evK (.d .none)))) (evOfTF (evCmpF (cmpMF .Is) (evVarF 1) (evK (.d .none))))))) sqN) sqN) (sqC
  (esAsgF (evAndF (evOfTF (evCmpF (cmpMF .Eq) (evIsiF (evVarF 0) ["str"]) (evIsiF (evVarF 1) ["str"]))) (evOfTF (evCmpF (cmpMF .Eq) (evIsiF (evVarF 0) ["bool"]) (evIsiF (evVarF 1) ["bool"])))) (egNameF 2)) (sqC
  (esRetF (evFzF (evAndF (evVarF 2) (evAndF (evOfTF (evCmpF (cmpMF .Eq) (evIsiF (evVarF 0) ["int"]) (evIsiF (evVarF 1) ["int"]))) (evOfTF (evCmpF (cmpMF .Eq) (evVarF 0) (evVarF 1))))))) sqN))))
theorem bk__law_exact (m : Nat) (φ : F0) : bodyOf T [] m φ d__law_exact = some (b__law_exact m φ) := by
  unfold b__law_exact
  simp only [opMulF_eq, cmpMF_eq, evN_eq, evC_eq, egN_eq, egC_eq, sqN_eq, sqC_eq, evVarF_eq, evFzF_eq, evStF_eq, evMkF_eq, evBinF_eq, evUnF_eq, evBltF_eq, evCmpF_eq, evOfTF_eq, etTruF_eq, etNotF_eq, etAndF_eq, etOrF_eq, evIfF_eq, evAndF_eq, evOrF_eq, evTupF_eq, evLstF_eq, evCallF_eq, evMtF_eq, evIsiF_eq, egNameF_eq, egTupF_eq, esAsgF_eq, esParF_eq, esExprF_eq, esRetF_eq, esIfF_eq, goWhileF_eq, eiSeqF_eq, eiRng1F_eq, eiRng2F_eq, esForF_eq, evLcF_eq]
  kernel_rfl
noncomputable def b__law_lowest (m : Nat) (φ : F0) : ES := (sqC
  (esParF (evC ((evStF (evBltF absM (evC ((evVarF 0)) evN)))) (evC ((evStF (evBltF absM (evC ((evVarF 1)) evN)))) evN)) (egC ((egNameF 3)) (egC ((egNameF 4)) egN))) (sqC
  (goWhileF (evCmpF (cmpMF .Gt) (evVarF 4) (ki 0)) (sqC
    (esAsgF (evStF (evBinF opMod (evStF (evBltF intM (evC ((evVarF 3)) evN))) (evVarF 4))) (egNameF 5)) (sqC
    (esAsgF (evVarF 4) (egNameF 3)) (sqC
    (esAsgF (evVarF 5) (egNameF 4)) sqN))) m) (sqC
  (esAsgF (evIfF (evCmpF (cmpMF .Lt) (evVarF 1) (ki 0)) (evStF (evUnF negM (ki 1))) (ki 1)) (egNameF 2)) (sqC
  (esRetF (evFzF (evTupF (evC (evFzF (evStF (evBinF opDiv (evStF (evBinF opMulF (evVarF 2) (evVarF 0))) (evVarF 3)))) (evC (evFzF (evStF (evBinF opDiv (evStF (evBinF opMulF (evVarF 2) (evVarF 1))) (evVarF 3)))) evN))))) sqN))))
theorem bk__law_lowest (m : Nat) (φ : F0) : bodyOf T [] m φ d__law_lowest = some (b__law_lowest m φ) := by
  unfold b__law_lowest
  simp only [opMulF_eq, cmpMF_eq, evN_eq, evC_eq, egN_eq, egC_eq, sqN_eq, sqC_eq, evVarF_eq, evFzF_eq, evStF_eq, evMkF_eq, evBinF_eq, evUnF_eq, evBltF_eq, evCmpF_eq, evOfTF_eq, etTruF_eq, etNotF_eq, etAndF_eq, etOrF_eq, evIfF_eq, evAndF_eq, evOrF_eq, evTupF_eq, evLstF_eq, evCallF_eq, evMtF_eq, evIsiF_eq, egNameF_eq, egTupF_eq, esAsgF_eq, esParF_eq, esExprF_eq, esRetF_eq, esIfF_eq, goWhileF_eq, eiSeqF_eq, eiRng1F_eq, eiRng2F_eq, esForF_eq, evLcF_eq]
  kernel_rfl
noncomputable def b__law_excess (m : Nat) (φ : F0) : ES := (sqC
  (esRetF (evFzF (evCallF (φ 10) (evC (evFzF (evStF (evBinF opSub (evStF (evBinF opAdd (evStF (evBinF opAdd (evStF (evBinF opMulF (evVarF 1) (evVarF 2))) (evStF (evBinF opMulF (evVarF 0) (evVarF 2))))) (evStF (evBinF opMulF (evVarF 0) (evVarF 1))))) (evStF (evBinF opMulF (evStF (evBinF opMulF (evVarF 0) (evVarF 1))) (evVarF 2)))))) (evC (evFzF (evStF (evBinF opMulF (evStF (evBinF opMulF (evVarF 0) (evVarF 1))) (evVarF 2)))) evN))))) sqN)
theorem bk__law_excess (m : Nat) (φ : F0) : bodyOf T [] m φ d__law_excess = some (b__law_excess m φ) := by
  unfold b__law_excess
  simp only [opMulF_eq, cmpMF_eq, evN_eq, evC_eq, egN_eq, egC_eq, sqN_eq, sqC_eq, evVarF_eq, evFzF_eq, evStF_eq, evMkF_eq, evBinF_eq, evUnF_eq, evBltF_eq, evCmpF_eq, evOfTF_eq, etTruF_eq, etNotF_eq, etAndF_eq, etOrF_eq, evIfF_eq, evAndF_eq, evOrF_eq, evTupF_eq, evLstF_eq, evCallF_eq, evMtF_eq, evIsiF_eq, egNameF_eq, egTupF_eq, esAsgF_eq, esParF_eq, esExprF_eq, esRetF_eq, esIfF_eq, goWhileF_eq, eiSeqF_eq, eiRng1F_eq, eiRng2F_eq, esForF_eq, evLcF_eq]
  kernel_rfl
noncomputable def lw_0 (m : Nat) (φ : F0) : ES := esParF (evC ((evStF (evBinF opAdd (ki 2) (evCallF (φ 8) (evC ((evVarF 1)) (evC (evFzF (evVarF 0)) (evC (evFzF (ki 9)) evN))))))) (evC ((evStF (evBinF opAdd (ki 2) (evCallF (φ 8) (evC ((evVarF 1)) (evC (evFzF (evVarF 0)) (evC (evFzF (ki 9)) evN))))))) (evC ((evStF (evBinF opAdd (ki 2) (evCallF (φ 8) (evC ((evVarF 1)) (evC (evFzF (evVarF 0)) (evC (evFzF (ki 9)) evN))))))) evN))) (egC ((egNameF 16)) (egC ((egNameF 17)) (egC ((egNameF 18)) egN)))
noncomputable def lw_1 (m : Nat) (φ : F0) : ES := esIfF (evCmpF (cmpMF .Eq) (evCallF (φ 8) (evC ((evVarF 1)) (evC (evFzF (evVarF 0)) (evC (evFzF (ki 2)) evN)))) (ki 0)) (sqC
  (esAsgF (evStF (evBinF ixM (evStF (evLstF (evC ((evTupF (evC (evFzF (ki 2)) (evC (evFzF (ki 3)) (evC (evFzF (ki 3)) evN))))) (evC ((evTupF (evC (evFzF (ki 2)) (evC (evFzF (ki 3)) (evC (evFzF (ki 4)) evN))))) (evC ((evTupF (evC (evFzF (ki 2)) (evC (evFzF (ki 3)) (evC (evFzF (ki 5)) evN))))) (evC ((evTupF (evC (evFzF (ki 2)) (evC (evFzF (ki 2)) (evC (evFzF (evVarF 18)) evN))))) (evC ((evTupF (evC (evFzF (ki 2)) (evC (evFzF (ki 3)) (evC (evFzF (ki 6)) evN))))) (evC ((evTupF (evC (evFzF (ki 2)) (evC (evFzF (ki 4)) (evC (evFzF (ki 4)) evN))))) (evC ((evTupF (evC (evFzF (ki 3)) (evC (evFzF (ki 3)) (evC (evFzF (ki 3)) evN))))) (evC ((evTupF (evC (evFzF (ki 3)) (evC (evFzF (ki 2)) (evC (evFzF (ki 5)) evN))))) evN)))))))))) (evCallF (φ 8) (evC ((evVarF 1)) (evC (evFzF (evVarF 0)) (evC (evFzF (ki 8)) evN)))))) (egTupF (egC ((egNameF 16)) (egC ((egNameF 17)) (egC ((egNameF 18)) egN))))) sqN) sqN
noncomputable def lw_2 (m : Nat) (φ : F0) : ES := esAsgF (evCallF (φ 11) (evC (evFzF (evVarF 16)) (evC (evFzF (evVarF 17)) (evC (evFzF (evVarF 18)) evN)))) (egNameF 3)
noncomputable def lw_3 (m : Nat) (φ : F0) : ES := esAsgF (evIfF (evCmpF (cmpMF .Gt) (evStF (evBinF ixM (evVarF 3) (ki 0))) (ki 0)) (ks [115, 112, 104, 101, 114, 101]) (evIfF (evCmpF (cmpMF .Eq) (evStF (evBinF ixM (evVarF 3) (ki 0))) (ki 0)) (ks [112, 108, 97, 110, 101]) (ks [115, 97, 100, 100, 108, 101]))) (egNameF 4)
noncomputable def lw_4 (m : Nat) (φ : F0) : ES := esAsgF (evIfF (evCmpF (cmpMF .Gt) (evStF (evBinF ixM (evVarF 3) (ki 0))) (ki 0)) (evStF (evBinF opDiv (evStF (evBinF opMulF (ki 4) (evStF (evBinF ixM (evVarF 3) (ki 1))))) (evStF (evBinF ixM (evVarF 3) (ki 0))))) (evK (.d .none))) (egNameF 5)
noncomputable def lw_5 (m : Nat) (φ : F0) : ES := esIfF (etOrF (etNotF (etTruF (evCallF (φ 9) (evC (evFzF (evStF (evLstF (evC ((evVarF 3)) (evC ((evVarF 4)) (evC ((evVarF 5)) evN)))))) (evC (evFzF (evStF (evLstF (evC ((evCallF (φ 1) (evC (evFzF (evVarF 16)) (evC (evFzF (evVarF 17)) (evC (evFzF (evVarF 18)) evN))))) (evC ((evCallF (φ 2) (evC (evFzF (evVarF 16)) (evC (evFzF (evVarF 17)) (evC (evFzF (evVarF 18)) evN))))) (evC ((evCallF (φ 3) (evC (evFzF (evVarF 16)) (evC (evFzF (evVarF 17)) (evC (evFzF (evVarF 18)) evN))))) evN)))))) evN))))) (etAndF (evCmpF (cmpMF .IsNot) (evVarF 5) (evK (.d .none))) (evCmpF (cmpMF .NotEq) (evStF (evBinF opMulF (evVarF 5) (evStF (evBinF ixM (evVarF 3) (ki 0))))) (evStF (evBinF opMulF (ki 4) (evStF (evBinF ixM (evVarF 3) (ki 1)))))))) (sqC
  (esRetF (evFzF (evK (.d (.bool false))))) sqN) sqN
noncomputable def lw_6 (m : Nat) (φ : F0) : ES := esAsgF (evStF (evBinF opAdd (ki 2) (evCallF (φ 8) (evC ((evVarF 1)) (evC (evFzF (evVarF 0)) (evC (evFzF (ki 9)) evN)))))) (egNameF 6)
noncomputable def lw_7 (m : Nat) (φ : F0) : ES := esAsgF (evStF (evLstF evN)) (egNameF 7)
noncomputable def lw_8 (m : Nat) (φ : F0) : ES := esForF (eiRng2F (ki 2) (evStF (evBinF opAdd (evVarF 6) (ki 1)))) (egNameF 8) (sqC
  (esForF (eiRng2F (evVarF 8) (evStF (evBinF opAdd (evVarF 6) (ki 1)))) (egNameF 19) (sqC
    (esAsgF (evStF (evBinF opAdd (evVarF 7) (evStF (evLcF (eiRng2F (evVarF 19) (evStF (evBinF opAdd (evVarF 6) (ki 1)))) (egNameF 23) etYes (evTupF (evC (evFzF (evVarF 8)) (evC (evFzF (evVarF 19)) (evC (evFzF (evVarF 23)) evN)))) [23])))) (egNameF 7)) sqN)) sqN)
noncomputable def lw_9 (m : Nat) (φ : F0) : ES := esAsgF (evStF (evBinF ixM (evStF (evLstF (evC ((ks [115, 112, 104, 101, 114, 101])) (evC ((ks [112, 108, 97, 110, 101])) (evC ((ks [115, 97, 100, 100, 108, 101])) evN))))) (evCallF (φ 8) (evC ((evVarF 1)) (evC (evFzF (evVarF 0)) (evC (evFzF (ki 3)) evN)))))) (egNameF 9)
noncomputable def lw_10 (m : Nat) (φ : F0) : ES := esAsgF (evStF (evLstF evN)) (egNameF 10)
noncomputable def lw_11 (m : Nat) (φ : F0) : ES := esForF (eiSeqF (evVarF 7)) (egNameF 11) (sqC
  (esAsgF (evStF (evBinF ixM (evCallF (φ 11) (evC (evFzF (evStF (evBinF ixM (evVarF 11) (ki 0)))) (evC (evFzF (evStF (evBinF ixM (evVarF 11) (ki 1)))) (evC (evFzF (evStF (evBinF ixM (evVarF 11) (ki 2)))) evN)))) (ki 0))) (egNameF 20)) (sqC
  (esAsgF (evStF (evBinF opAdd (evVarF 10) (evStF (evBinF opMulF (evStF (evLstF (evC ((evVarF 11)) evN))) (evStF (evBltF intM (evC ((evOfTF (evCmpF (cmpMF .Eq) (evVarF 9) (evIfF (evCmpF (cmpMF .Gt) (evVarF 20) (ki 0)) (ks [115, 112, 104, 101, 114, 101]) (evIfF (evCmpF (cmpMF .Eq) (evVarF 20) (ki 0)) (ks [112, 108, 97, 110, 101]) (ks [115, 97, 100, 100, 108, 101])))))) evN))))))) (egNameF 10)) sqN))
noncomputable def lw_12 (m : Nat) (φ : F0) : ES := esIfF (etNotF (etTruF (evCallF (φ 9) (evC (evFzF (evVarF 10)) (evC (evFzF (evCallF (φ 4) (evC (evFzF (evVarF 9)) (evC (evFzF (evVarF 6)) evN)))) evN))))) (sqC
  (esRetF (evFzF (evK (.d (.bool false))))) sqN) sqN
noncomputable def lw_13 (m : Nat) (φ : F0) : ES := esParF (evC ((evCallF (φ 8) (evC ((evVarF 1)) (evC (evFzF (evVarF 0)) (evC (evFzF (ki 8)) evN))))) (evC ((evStF (evLstF evN))) evN)) (egC ((egNameF 21)) (egC ((egNameF 22)) egN))
noncomputable def lw_14 (m : Nat) (φ : F0) : ES := esForF (eiSeqF (evVarF 7)) (egNameF 11) (sqC
  (esAsgF (evCallF (φ 11) (evC (evFzF (evStF (evBinF ixM (evVarF 11) (ki 0)))) (evC (evFzF (evStF (evBinF ixM (evVarF 11) (ki 1)))) (evC (evFzF (evStF (evBinF ixM (evVarF 11) (ki 2)))) evN)))) (egNameF 20)) (sqC
  (esAsgF (evStF (evBinF opAdd (evVarF 22) (evStF (evBinF opMulF (evStF (evLstF (evC ((evTupF (evC (evFzF (evTupF (evC (evFzF (evStF (evUnF negM (evStF (evBinF ixM (evVarF 20) (ki 0)))))) (evC (evFzF (evStF (evBinF ixM (evVarF 20) (ki 1)))) evN)))) (evC (evFzF (evVarF 11)) evN)))) evN))) (evStF (evBltF intM (evC ((evOfTF (evCmpF (cmpMF .Lt) (evStF (evBinF ixM (evVarF 20) (ki 0))) (ki 0)))) evN))))))) (egNameF 22)) sqN))
noncomputable def lw_15 (m : Nat) (φ : F0) : ES := esAsgF (evCallF (φ 5) (evC (evFzF (evVarF 21)) (evC (evFzF (evVarF 6)) evN))) (egNameF 12)
noncomputable def lw_16 (m : Nat) (φ : F0) : ES := esAsgF (evMkF (evBltF listM (evC ((evVarF 22)) evN))) (egNameF 13)
noncomputable def lw_17 (m : Nat) (φ : F0) : ES := esForF (eiSeqF (evVarF 12)) (egNameF 14) (sqC
  (esIfF (etOrF (evCmpF (cmpMF .NotIn) (evVarF 14) (evVarF 13)) (evCmpF (cmpMF .NotEq) (evStF (evLcF (eiSeqF (evVarF 13)) (egNameF 24) (etOrF (evCmpF (cmpMF .Lt) (evStF (evBinF opMulF (evStF (evBinF ixM (evStF (evBinF ixM (evVarF 24) (ki 0))) (ki 0))) (evStF (evBinF ixM (evStF (evBinF ixM (evVarF 14) (ki 0))) (ki 1))))) (evStF (evBinF opMulF (evStF (evBinF ixM (evStF (evBinF ixM (evVarF 14) (ki 0))) (ki 0))) (evStF (evBinF ixM (evStF (evBinF ixM (evVarF 24) (ki 0))) (ki 1)))))) (etAndF (evCmpF (cmpMF .Eq) (evStF (evBinF ixM (evVarF 24) (ki 0))) (evStF (evBinF ixM (evVarF 14) (ki 0)))) (evCmpF (cmpMF .Lt) (evStF (evBinF ixM (evVarF 24) (ki 1))) (evStF (evBinF ixM (evVarF 14) (ki 1)))))) (evVarF 24) [24])) (evStF (evLstF evN)))) (sqC
    (esRetF (evFzF (evK (.d (.bool false))))) sqN) sqN) (sqC
  (esExprF (evMtF removeM (evVarF 13) (evC (evFzF (evVarF 14)) evN))) sqN))
noncomputable def lw_18 (m : Nat) (φ : F0) : ES := esIfF (evCmpF (cmpMF .NotEq) (evStF (evBltF lenM (evC ((evVarF 12)) evN))) (evStF (evBltF min2M (evC ((evVarF 21)) (evC ((evStF (evBltF lenM (evC ((evVarF 22)) evN)))) evN))))) (sqC
  (esRetF (evFzF (evK (.d (.bool false))))) sqN) sqN
noncomputable def lw_19 (m : Nat) (φ : F0) : ES := esParF (evC ((evStF (evBinF opAdd (ki 3) (evCallF (φ 8) (evC ((evVarF 1)) (evC (evFzF (evVarF 0)) (evC (evFzF (ki 5)) evN))))))) (evC ((evStF (evBinF opAdd (ki 3) (evCallF (φ 8) (evC ((evVarF 1)) (evC (evFzF (evVarF 0)) (evC (evFzF (ki 5)) evN))))))) evN)) (egC ((egNameF 16)) (egC ((egNameF 17)) egN))
noncomputable def lw_20 (m : Nat) (φ : F0) : ES := esAsgF (evCallF (φ 6) (evC (evFzF (evVarF 16)) (evC (evFzF (evVarF 17)) evN))) (egNameF 15)
noncomputable def lw_21 (m : Nat) (φ : F0) : ES := esIfF (evCmpF (cmpMF .NotEq) (evOfTF (evCmpF (cmpMF .Is) (evVarF 15) (evK (.d .none)))) (evOfTF (evCmpF (cmpMF .GtE) (evStF (evBinF opMulF (evStF (evBinF opSub (evVarF 16) (ki 2))) (evStF (evBinF opSub (evVarF 17) (ki 2))))) (ki 4)))) (sqC
  (esRetF (evFzF (evK (.d (.bool false))))) sqN) sqN
noncomputable def lw_22 (m : Nat) (φ : F0) : ES := esIfF (etAndF (evCmpF (cmpMF .IsNot) (evVarF 15) (evK (.d .none))) (etOrF (evCmpF (cmpMF .NotEq) (evStF (evBinF opAdd (evStF (evBinF opSub (evStF (evBinF ixM (evVarF 15) (ki 0))) (evStF (evBinF ixM (evVarF 15) (ki 1))))) (evStF (evBinF ixM (evVarF 15) (ki 2))))) (ki 2)) (etOrF (evCmpF (cmpMF .NotEq) (evStF (evBinF opMulF (evVarF 16) (evStF (evBinF ixM (evVarF 15) (ki 0))))) (evStF (evBinF opMulF (ki 2) (evStF (evBinF ixM (evVarF 15) (ki 1)))))) (evCmpF (cmpMF .NotEq) (evStF (evBinF opMulF (evVarF 17) (evStF (evBinF ixM (evVarF 15) (ki 2))))) (evStF (evBinF opMulF (ki 2) (evStF (evBinF ixM (evVarF 15) (ki 1))))))))) (sqC
  (esRetF (evFzF (evK (.d (.bool false))))) sqN) sqN
noncomputable def lw_23 (m : Nat) (φ : F0) : ES := esParF (evC ((evStF (evBinF opSub (evCallF (φ 8) (evC ((evVarF 1)) (evC (evFzF (evVarF 0)) (evC (evFzF (ki 60)) evN)))) (ki 30)))) (evC ((evStF (evBinF opAdd (ki 1) (evCallF (φ 8) (evC ((evVarF 1)) (evC (evFzF (evVarF 0)) (evC (evFzF (ki 12)) evN))))))) evN)) (egC ((egNameF 8)) (egC ((egNameF 19)) egN))
noncomputable def lw_24 (m : Nat) (φ : F0) : ES := esIfF (etNotF (etTruF (evCallF (φ 9) (evC (evFzF (evCallF (φ 10) (evC (evFzF (evVarF 8)) (evC (evFzF (evVarF 19)) evN)))) (evC (evFzF (evCallF (φ 0) (evC (evFzF (evVarF 8)) (evC (evFzF (evVarF 19)) evN)))) evN))))) (sqC
  (esRetF (evFzF (evK (.d (.bool false))))) sqN) sqN
noncomputable def lwAll (m : Nat) (φ : F0) : List ES := [lw_0 m φ, lw_1 m φ, lw_2 m φ, lw_3 m φ, lw_4 m φ, lw_5 m φ, lw_6 m φ, lw_7 m φ, lw_8 m φ, lw_9 m φ, lw_10 m φ, lw_11 m φ, lw_12 m φ, lw_13 m φ, lw_14 m φ, lw_15 m φ, lw_16 m φ, lw_17 m φ, lw_18 m φ, lw_19 m φ, lw_20 m φ, lw_21 m φ, lw_22 m φ, lw_23 m φ, lw_24 m φ]
noncomputable def b_law (m : Nat) (φ : F0) : ES := (sqC
  (esAsgF (evMkF (evLstF (evC ((ki 0)) (evC ((ki 0)) evN)))) (egNameF 1)) (sqC
  (esForF (eiRng1F (ki 4)) (egNameF 2) (sqC
    (lw_0 m φ) (sqC
    (lw_1 m φ) (sqC
    (lw_2 m φ) (sqC
    (lw_3 m φ) (sqC
    (lw_4 m φ) (sqC
    (lw_5 m φ) (sqC
    (lw_6 m φ) (sqC
    (lw_7 m φ) (sqC
    (lw_8 m φ) (sqC
    (lw_9 m φ) (sqC
    (lw_10 m φ) (sqC
    (lw_11 m φ) (sqC
    (lw_12 m φ) (sqC
    (lw_13 m φ) (sqC
    (lw_14 m φ) (sqC
    (lw_15 m φ) (sqC
    (lw_16 m φ) (sqC
    (lw_17 m φ) (sqC
    (lw_18 m φ) (sqC
    (lw_19 m φ) (sqC
    (lw_20 m φ) (sqC
    (lw_21 m φ) (sqC
    (lw_22 m φ) (sqC
    (lw_23 m φ) (sqC
    (lw_24 m φ) sqN)))))))))))))))))))))))))) (sqC
  (esRetF (evFzF (evAndF (evOfTF (evCmpF (cmpMF .Eq) (evCallF (φ 5) (evC (evFzF (ki 3)) (evC (evFzF (ki 9)) evN))) (evStF (evLstF (evC ((evTupF (evC (evFzF (evTupF (evC (evFzF (ki 1)) (evC (evFzF (ki 42)) evN)))) (evC (evFzF (evTupF (evC (evFzF (ki 2)) (evC (evFzF (ki 3)) (evC (evFzF (ki 7)) evN))))) evN)))) (evC ((evTupF (evC (evFzF (evTupF (evC (evFzF (ki 1)) (evC (evFzF (ki 24)) evN)))) (evC (evFzF (evTupF (evC (evFzF (ki 2)) (evC (evFzF (ki 3)) (evC (evFzF (ki 8)) evN))))) evN)))) (evC ((evTupF (evC (evFzF (evTupF (evC (evFzF (ki 1)) (evC (evFzF (ki 20)) evN)))) (evC (evFzF (evTupF (evC (evFzF (ki 2)) (evC (evFzF (ki 4)) (evC (evFzF (ki 5)) evN))))) evN)))) evN))))))) (evOfTF (evCmpF (cmpMF .Eq) (evCallF (φ 6) (evC (evFzF (ki 5)) (evC (evFzF (ki 3)) evN))) (evTupF (evC (evFzF (ki 12)) (evC (evFzF (ki 30)) (evC (evFzF (ki 20)) evN))))))))) sqN)))
theorem bk_law (m : Nat) (φ : F0) : bodyOf T [] m φ d_law = some (b_law m φ) := by
  unfold b_law lw_0 lw_1 lw_2 lw_3 lw_4 lw_5 lw_6 lw_7 lw_8 lw_9 lw_10 lw_11 lw_12 lw_13 lw_14 lw_15 lw_16 lw_17 lw_18 lw_19 lw_20 lw_21 lw_22 lw_23 lw_24
  simp only [opMulF_eq, cmpMF_eq, evN_eq, evC_eq, egN_eq, egC_eq, sqN_eq, sqC_eq, evVarF_eq, evFzF_eq, evStF_eq, evMkF_eq, evBinF_eq, evUnF_eq, evBltF_eq, evCmpF_eq, evOfTF_eq, etTruF_eq, etNotF_eq, etAndF_eq, etOrF_eq, evIfF_eq, evAndF_eq, evOrF_eq, evTupF_eq, evLstF_eq, evCallF_eq, evMtF_eq, evIsiF_eq, egNameF_eq, egTupF_eq, esAsgF_eq, esParF_eq, esExprF_eq, esRetF_eq, esIfF_eq, goWhileF_eq, eiSeqF_eq, eiRng1F_eq, eiRng2F_eq, esForF_eq, evLcF_eq]
  kernel_rfl
noncomputable def Bs : List Bd := [⟨b_lowest, 2, 4⟩, ⟨b_excess, 3, 3⟩, ⟨b_kind_of_triangle, 3, 4⟩, ⟨b_sphere_order, 3, 5⟩, ⟨b_all_triangles, 2, 6⟩, ⟨b_least_saddles, 2, 9⟩, ⟨b_sphere_names, 2, 3⟩, ⟨b__law_refill, 2, 3⟩, ⟨b__law_draw, 3, 4⟩, ⟨b__law_exact, 2, 4⟩, ⟨b__law_lowest, 2, 6⟩, ⟨b__law_excess, 3, 3⟩, ⟨b_law, 1, 25⟩]
theorem bs_ok (m : Nat) : Paired (fun (d : Fd) (B : Bd) => (∀ φ, bodyOf T [] m φ d = some (B.b m φ)) ∧ B.ar = d.ps.length ∧ B.nl = d.N.length) T Bs := .cons ⟨bk_lowest m, rfl, rfl⟩ (.cons ⟨bk_excess m, rfl, rfl⟩ (.cons ⟨bk_kind_of_triangle m, rfl, rfl⟩ (.cons ⟨bk_sphere_order m, rfl, rfl⟩ (.cons ⟨bk_all_triangles m, rfl, rfl⟩ (.cons ⟨bk_least_saddles m, rfl, rfl⟩ (.cons ⟨bk_sphere_names m, rfl, rfl⟩ (.cons ⟨bk__law_refill m, rfl, rfl⟩ (.cons ⟨bk__law_draw m, rfl, rfl⟩ (.cons ⟨bk__law_exact m, rfl, rfl⟩ (.cons ⟨bk__law_lowest m, rfl, rfl⟩ (.cons ⟨bk__law_excess m, rfl, rfl⟩ (.cons ⟨bk_law m, rfl, rfl⟩ (.nil)))))))))))))
end L2.MP.K73
/-! Law k73: the closed checks. -/
namespace L2.MP.K73
open PySem PySem.Spec PyProof.Rows L2.MP

noncomputable def φ0 : F0 := fsem Bs 1000 11
noncomputable def sg (i j : Nat) : ES := fun env hp => fcL env fun env => sqs ((lwAll 1000 φ0).extract i j) env hp
abbrev n0 (e : Me) (i : Nat) (x : Int) : Me := e.set i (some (.d (.int x)))
/-- p, q, r -/
def e1 (p q r : Nat) : Me := n0 (n0 (n0 (base0 23) 16 (2 + p)) 17 (2 + q)) 18 (2 + r)
noncomputable def c1 (p q r : Nat) : Bool := okNx (sg 2 6 (e1 p q r) []) fun e _ => subM (base0 23) e
def e3 (p q : Nat) : Me := n0 (n0 (base0 23) 16 (3 + p)) 17 (3 + q)
noncomputable def c3 (p q : Nat) : Bool := okNx (sg 20 23 (e3 p q) []) fun e _ => subM (base0 23) e
def e4 (a b : Nat) : Me := n0 (n0 (base0 23) 8 (a - 30)) 19 (1 + b)
noncomputable def c4 (a b : Nat) : Bool := okNx (sg 24 25 (e4 a b) []) fun e _ => subM (base0 23) e
def words : List Str := ["sphere", "plane", "saddle"]
/-- most -/
def eA (k : Nat) : Me := n0 (base0 23) 6 (2 + k)
noncomputable def eR (k : Nat) : Me := match sg 7 9 (eA k) [] with
  | some (.nx, e, _) => keepE [6, 7] e
  | _ => []
noncomputable def cA (k : Nat) : Bool := okNx (sg 7 9 (eA k) []) fun e _ => subM (eR k) e
noncomputable def cB (k : Nat) (w : Str) : Bool := okNx (sg 10 13 ((eR k).set 9 (some (.d (.str w)))) []) fun e _ => subM (eR k) e
noncomputable def cC (k m : Nat) : Bool := okNx (sg 14 19 ((n0 (eR k) 21 m).set 22 (some (.d (.list [])))) []) fun e _ => subM (base0 23) e
end L2.MP.K73
/-! Law k73: the closed checks, run. -/
namespace L2.MP.K73
open PySem PySem.Spec PyProof.Rows L2.MP

theorem t1_0 : ((List.range 9).all fun q => (List.range 9).all fun r => c1 0 q r) = true := by decide +kernel
theorem t1_1 : ((List.range 9).all fun q => (List.range 9).all fun r => c1 1 q r) = true := by decide +kernel
theorem t1_2 : ((List.range 9).all fun q => (List.range 9).all fun r => c1 2 q r) = true := by decide +kernel
theorem t1_3 : ((List.range 9).all fun q => (List.range 9).all fun r => c1 3 q r) = true := by decide +kernel
theorem t1_4 : ((List.range 9).all fun q => (List.range 9).all fun r => c1 4 q r) = true := by decide +kernel
theorem t1_5 : ((List.range 9).all fun q => (List.range 9).all fun r => c1 5 q r) = true := by decide +kernel
theorem t1_6 : ((List.range 9).all fun q => (List.range 9).all fun r => c1 6 q r) = true := by decide +kernel
theorem t1_7 : ((List.range 9).all fun q => (List.range 9).all fun r => c1 7 q r) = true := by decide +kernel
theorem t1_8 : ((List.range 9).all fun q => (List.range 9).all fun r => c1 8 q r) = true := by decide +kernel
theorem t3 : ((List.range 5).all fun p => (List.range 5).all fun q => c3 p q) = true := by decide +kernel
theorem t4_0 : ((List.range 60).all fun a => ((List.range' 0 3).all fun b => c4 a b)) = true := by decide +kernel
theorem t4_1 : ((List.range 60).all fun a => ((List.range' 3 3).all fun b => c4 a b)) = true := by decide +kernel
theorem t4_2 : ((List.range 60).all fun a => ((List.range' 6 3).all fun b => c4 a b)) = true := by decide +kernel
theorem t4_3 : ((List.range 60).all fun a => ((List.range' 9 3).all fun b => c4 a b)) = true := by decide +kernel
theorem tA : ((List.range 9).all cA) = true := by decide +kernel
theorem tB_0 : (words.all fun w => cB 0 w) = true := by decide +kernel
theorem tC_0 : ((List.range 8).all fun m => cC 0 m) = true := by decide +kernel
theorem tB_1 : (words.all fun w => cB 1 w) = true := by decide +kernel
theorem tC_1 : ((List.range 8).all fun m => cC 1 m) = true := by decide +kernel
theorem tB_2 : (words.all fun w => cB 2 w) = true := by decide +kernel
theorem tC_2 : ((List.range 8).all fun m => cC 2 m) = true := by decide +kernel
theorem tB_3 : (words.all fun w => cB 3 w) = true := by decide +kernel
theorem tC_3 : ((List.range 8).all fun m => cC 3 m) = true := by decide +kernel
theorem tB_4 : (words.all fun w => cB 4 w) = true := by decide +kernel
theorem tC_4 : ((List.range 8).all fun m => cC 4 m) = true := by decide +kernel
theorem tB_5 : (words.all fun w => cB 5 w) = true := by decide +kernel
theorem tC_5_0 : cC 5 0 = true := by decide +kernel
theorem tC_5_1 : cC 5 1 = true := by decide +kernel
theorem tC_5_2 : cC 5 2 = true := by decide +kernel
theorem tC_5_3 : cC 5 3 = true := by decide +kernel
theorem tC_5_4 : cC 5 4 = true := by decide +kernel
theorem tC_5_5 : cC 5 5 = true := by decide +kernel
theorem tC_5_6 : cC 5 6 = true := by decide +kernel
theorem tC_5_7 : cC 5 7 = true := by decide +kernel
theorem tB_6 : (words.all fun w => cB 6 w) = true := by decide +kernel
theorem tC_6_0 : cC 6 0 = true := by decide +kernel
theorem tC_6_1 : cC 6 1 = true := by decide +kernel
theorem tC_6_2 : cC 6 2 = true := by decide +kernel
theorem tC_6_3 : cC 6 3 = true := by decide +kernel
theorem tC_6_4 : cC 6 4 = true := by decide +kernel
theorem tC_6_5 : cC 6 5 = true := by decide +kernel
theorem tC_6_6 : cC 6 6 = true := by decide +kernel
theorem tC_6_7 : cC 6 7 = true := by decide +kernel
theorem tB_7 : (words.all fun w => cB 7 w) = true := by decide +kernel
theorem tC_7_0 : cC 7 0 = true := by decide +kernel
theorem tC_7_1 : cC 7 1 = true := by decide +kernel
theorem tC_7_2 : cC 7 2 = true := by decide +kernel
theorem tC_7_3 : cC 7 3 = true := by decide +kernel
theorem tC_7_4 : cC 7 4 = true := by decide +kernel
theorem tC_7_5 : cC 7 5 = true := by decide +kernel
theorem tC_7_6 : cC 7 6 = true := by decide +kernel
theorem tC_7_7 : cC 7 7 = true := by decide +kernel
theorem tB_8 : (words.all fun w => cB 8 w) = true := by decide +kernel
theorem tC_8_0 : cC 8 0 = true := by decide +kernel
theorem tC_8_1 : cC 8 1 = true := by decide +kernel
theorem tC_8_2 : cC 8 2 = true := by decide +kernel
theorem tC_8_3 : cC 8 3 = true := by decide +kernel
theorem tC_8_4 : cC 8 4 = true := by decide +kernel
theorem tC_8_5 : cC 8 5 = true := by decide +kernel
theorem tC_8_6 : cC 8 6 = true := by decide +kernel
theorem tC_8_7 : cC 8 7 = true := by decide +kernel
end L2.MP.K73
/-! Law k73: from the closed checks to the law. -/
namespace L2.MP.K73
open PySem PySem.Spec PyProof.Rows L2.MP

theorem φ0_eq : φ0 = sem T [] 1000 11 := fsem_eq (bs_ok 1000) 11
theorem φ0_f (t : Tr) (k : Nat) : FC t (φ0 k) := by
  rw [φ0_eq]
  exact sem_f (fun p hp => by cases hp) _ _
def ct (φ : F0) : Ct := { N := d_law.N, G := gOf T [], mks := d_law.mks, fuel := 1000, φ := φ }
def scl : Scope := defScope d_law.st
def loopB : List Stmt := match (defBody d_law.st).drop 1 with
  | Stmt.For _ _ b _ _ :: _ => b
  | _ => []
theorem lw_comp (φ : F0) : mapO (compS 39 (ct φ) scl) loopB = some (lwAll 1000 φ) := by
  unfold lwAll lw_0 lw_1 lw_2 lw_3 lw_4 lw_5 lw_6 lw_7 lw_8 lw_9 lw_10 lw_11 lw_12 lw_13 lw_14 lw_15 lw_16 lw_17 lw_18 lw_19 lw_20 lw_21 lw_22 lw_23 lw_24
  simp only [opMulF_eq, cmpMF_eq, evN_eq, evC_eq, egN_eq, egC_eq, sqN_eq, sqC_eq, evVarF_eq, evFzF_eq, evStF_eq, evMkF_eq, evBinF_eq, evUnF_eq, evBltF_eq, evCmpF_eq, evOfTF_eq, etTruF_eq, etNotF_eq, etAndF_eq, etOrF_eq, evIfF_eq, evAndF_eq, evOrF_eq, evTupF_eq, evLstF_eq, evCallF_eq, evMtF_eq, evIsiF_eq, egNameF_eq, egTupF_eq, esAsgF_eq, esParF_eq, esExprF_eq, esRetF_eq, esIfF_eq, goWhileF_eq, eiSeqF_eq, eiRng1F_eq, eiRng2F_eq, esForF_eq, evLcF_eq]
  kernel_rfl
theorem lw_fs (t : Tr) : ∀ f ∈ lwAll 1000 φ0, FS t f := mapO_mem (lw_comp φ0) fun st f z => gfS _ _ _ _ _ ⟨φ0_f t, fun x v h => by have := gOf_dat h; cases this⟩ z
theorem sg_eq (i j : Nat) : sg i j = esSeq ((lwAll 1000 φ0).extract i j) := by
  funext env hp
  unfold sg
  rw [fcL_eq, sqs_eq]
theorem sg_f (i j : Nat) (t : Tr) : FS t (sg i j) := by
  rw [sg_eq]
  exact fs_seq fun f hf => lw_fs t f (List.mem_of_mem_drop (List.mem_of_mem_take hf))
theorem s0 (φ : F0) : lw_0 1000 φ = esPar [evSt (evBin opAdd (ki 2) (dr (φ 8) 9)), evSt (evBin opAdd (ki 2) (dr (φ 8) 9)), evSt (evBin opAdd (ki 2) (dr (φ 8) 9))] [egName 16, egName 17, egName 18] := by
  unfold lw_0
  simp only [opMulF_eq, cmpMF_eq, evN_eq, evC_eq, egN_eq, egC_eq, sqN_eq, sqC_eq, evVarF_eq, evFzF_eq, evStF_eq, evMkF_eq, evBinF_eq, evUnF_eq, evBltF_eq, evCmpF_eq, evOfTF_eq, etTruF_eq, etNotF_eq, etAndF_eq, etOrF_eq, evIfF_eq, evAndF_eq, evOrF_eq, evTupF_eq, evLstF_eq, evCallF_eq, evMtF_eq, evIsiF_eq, egNameF_eq, egTupF_eq, esAsgF_eq, esParF_eq, esExprF_eq, esRetF_eq, esIfF_eq, goWhileF_eq, eiSeqF_eq, eiRng1F_eq, eiRng2F_eq, esForF_eq, evLcF_eq]
noncomputable def lst8 : Ev := (evSt (evLst [(evTup [evFz (ki 2), evFz (ki 3), evFz (ki 3)]), (evTup [evFz (ki 2), evFz (ki 3), evFz (ki 4)]), (evTup [evFz (ki 2), evFz (ki 3), evFz (ki 5)]), (evTup [evFz (ki 2), evFz (ki 2), evFz (evVar 18)]), (evTup [evFz (ki 2), evFz (ki 3), evFz (ki 6)]), (evTup [evFz (ki 2), evFz (ki 4), evFz (ki 4)]), (evTup [evFz (ki 3), evFz (ki 3), evFz (ki 3)]), (evTup [evFz (ki 3), evFz (ki 2), evFz (ki 5)])]))
theorem s1 (φ : F0) : lw_1 1000 φ = esIf (evCmp (cmpM .Eq) (dr (φ 8) 2) (ki 0)) (esSeq [esAsg (evSt (evBin ixM lst8 (dr (φ 8) 8))) (egTup [egName 16, egName 17, egName 18])]) (esSeq []) := by
  unfold lw_1 lst8
  simp only [opMulF_eq, cmpMF_eq, evN_eq, evC_eq, egN_eq, egC_eq, sqN_eq, sqC_eq, evVarF_eq, evFzF_eq, evStF_eq, evMkF_eq, evBinF_eq, evUnF_eq, evBltF_eq, evCmpF_eq, evOfTF_eq, etTruF_eq, etNotF_eq, etAndF_eq, etOrF_eq, evIfF_eq, evAndF_eq, evOrF_eq, evTupF_eq, evLstF_eq, evCallF_eq, evMtF_eq, evIsiF_eq, egNameF_eq, egTupF_eq, esAsgF_eq, esParF_eq, esExprF_eq, esRetF_eq, esIfF_eq, goWhileF_eq, eiSeqF_eq, eiRng1F_eq, eiRng2F_eq, esForF_eq, evLcF_eq]
theorem s6 (φ : F0) : lw_6 1000 φ = esAsg (evSt (evBin opAdd (ki 2) (dr (φ 8) 9))) (egName 6) := by
  unfold lw_6
  simp only [opMulF_eq, cmpMF_eq, evN_eq, evC_eq, egN_eq, egC_eq, sqN_eq, sqC_eq, evVarF_eq, evFzF_eq, evStF_eq, evMkF_eq, evBinF_eq, evUnF_eq, evBltF_eq, evCmpF_eq, evOfTF_eq, etTruF_eq, etNotF_eq, etAndF_eq, etOrF_eq, evIfF_eq, evAndF_eq, evOrF_eq, evTupF_eq, evLstF_eq, evCallF_eq, evMtF_eq, evIsiF_eq, egNameF_eq, egTupF_eq, esAsgF_eq, esParF_eq, esExprF_eq, esRetF_eq, esIfF_eq, goWhileF_eq, eiSeqF_eq, eiRng1F_eq, eiRng2F_eq, esForF_eq, evLcF_eq]
  try rfl
noncomputable def lst3 : Ev := (evSt (evLst [(ks [115, 112, 104, 101, 114, 101]), (ks [112, 108, 97, 110, 101]), (ks [115, 97, 100, 100, 108, 101])]))
theorem s9 (φ : F0) : lw_9 1000 φ = esAsg (evSt (evBin ixM lst3 (dr (φ 8) 3))) (egName 9) := by
  unfold lw_9 lst3
  simp only [opMulF_eq, cmpMF_eq, evN_eq, evC_eq, egN_eq, egC_eq, sqN_eq, sqC_eq, evVarF_eq, evFzF_eq, evStF_eq, evMkF_eq, evBinF_eq, evUnF_eq, evBltF_eq, evCmpF_eq, evOfTF_eq, etTruF_eq, etNotF_eq, etAndF_eq, etOrF_eq, evIfF_eq, evAndF_eq, evOrF_eq, evTupF_eq, evLstF_eq, evCallF_eq, evMtF_eq, evIsiF_eq, egNameF_eq, egTupF_eq, esAsgF_eq, esParF_eq, esExprF_eq, esRetF_eq, esIfF_eq, goWhileF_eq, eiSeqF_eq, eiRng1F_eq, eiRng2F_eq, esForF_eq, evLcF_eq]
theorem s13 (φ : F0) : lw_13 1000 φ = esPar [dr (φ 8) 8, evSt (evLst [])] [egName 21, egName 22] := by
  unfold lw_13
  simp only [opMulF_eq, cmpMF_eq, evN_eq, evC_eq, egN_eq, egC_eq, sqN_eq, sqC_eq, evVarF_eq, evFzF_eq, evStF_eq, evMkF_eq, evBinF_eq, evUnF_eq, evBltF_eq, evCmpF_eq, evOfTF_eq, etTruF_eq, etNotF_eq, etAndF_eq, etOrF_eq, evIfF_eq, evAndF_eq, evOrF_eq, evTupF_eq, evLstF_eq, evCallF_eq, evMtF_eq, evIsiF_eq, egNameF_eq, egTupF_eq, esAsgF_eq, esParF_eq, esExprF_eq, esRetF_eq, esIfF_eq, goWhileF_eq, eiSeqF_eq, eiRng1F_eq, eiRng2F_eq, esForF_eq, evLcF_eq]
  try rfl
theorem s19 (φ : F0) : lw_19 1000 φ = esPar [evSt (evBin opAdd (ki 3) (dr (φ 8) 5)), evSt (evBin opAdd (ki 3) (dr (φ 8) 5))] [egName 16, egName 17] := by
  unfold lw_19
  simp only [opMulF_eq, cmpMF_eq, evN_eq, evC_eq, egN_eq, egC_eq, sqN_eq, sqC_eq, evVarF_eq, evFzF_eq, evStF_eq, evMkF_eq, evBinF_eq, evUnF_eq, evBltF_eq, evCmpF_eq, evOfTF_eq, etTruF_eq, etNotF_eq, etAndF_eq, etOrF_eq, evIfF_eq, evAndF_eq, evOrF_eq, evTupF_eq, evLstF_eq, evCallF_eq, evMtF_eq, evIsiF_eq, egNameF_eq, egTupF_eq, esAsgF_eq, esParF_eq, esExprF_eq, esRetF_eq, esIfF_eq, goWhileF_eq, eiSeqF_eq, eiRng1F_eq, eiRng2F_eq, esForF_eq, evLcF_eq]
  try rfl
theorem s23 (φ : F0) : lw_23 1000 φ = esPar [evSt (evBin opSub (dr (φ 8) 60) (ki 30)), evSt (evBin opAdd (ki 1) (dr (φ 8) 12))] [egName 8, egName 19] := by
  unfold lw_23
  simp only [opMulF_eq, cmpMF_eq, evN_eq, evC_eq, egN_eq, egC_eq, sqN_eq, sqC_eq, evVarF_eq, evFzF_eq, evStF_eq, evMkF_eq, evBinF_eq, evUnF_eq, evBltF_eq, evCmpF_eq, evOfTF_eq, etTruF_eq, etNotF_eq, etAndF_eq, etOrF_eq, evIfF_eq, evAndF_eq, evOrF_eq, evTupF_eq, evLstF_eq, evCallF_eq, evMtF_eq, evIsiF_eq, egNameF_eq, egTupF_eq, esAsgF_eq, esParF_eq, esExprF_eq, esRetF_eq, esIfF_eq, goWhileF_eq, eiSeqF_eq, eiRng1F_eq, eiRng2F_eq, esForF_eq, evLcF_eq]
  try rfl
theorem split : lwAll 1000 φ0 = [lw_0 1000 φ0] ++ ([lw_1 1000 φ0] ++ ((lwAll 1000 φ0).extract 2 6 ++ ([lw_6 1000 φ0] ++ ((lwAll 1000 φ0).extract 7 9 ++ ([lw_9 1000 φ0] ++ ((lwAll 1000 φ0).extract 10 13 ++ ([lw_13 1000 φ0] ++ ((lwAll 1000 φ0).extract 14 19 ++ ([lw_19 1000 φ0] ++ ((lwAll 1000 φ0).extract 20 23 ++ ([lw_23 1000 φ0] ++ (lwAll 1000 φ0).extract 24 25))))))))))) := by kernel_rfl
theorem bDraw_ok (φ : F0) : bodyOf T [] 1000 φ d__law_draw = some (bDraw (φ 7)) := by kernel_rfl
theorem bRefill_ok (φ : F0) : bodyOf T [] 1000 φ d__law_refill = some bRefill := by kernel_rfl
theorem draws (ns : List Int) : Draws (.list (ns.map .int)) (φ0 8) := by
  refine ⟨fun {hp j k c} S {size} h0 h1 => ?_⟩
  rw [φ0_eq]
  have R : ∀ (k : Int) (hp : Mh), ∃ v : Int, sem T [] 1000 10 7 [.d (.list (ns.map .int)), .d (.int k)] hp = some (.d (.int v), hp) := fun k hp => by
    rw [sem_run (d := d__law_refill) rfl rfl (bRefill_ok _)]
    exact refill_run ns k hp
  rw [sem_run (d := d__law_draw) rfl rfl (bDraw_ok _)]
  exact draw_run R S h0 h1

structure Checks : Prop where
  h1 : ∀ p < 9, ∀ q < 9, ∀ r < 9, c1 p q r = true
  h3 : ∀ p < 5, ∀ q < 5, c3 p q = true
  h4 : ∀ a < 60, ∀ b < 12, c4 a b = true
  hA : ∀ k < 9, cA k = true
  hB : ∀ k < 9, ∀ w ∈ words, cB k w = true
  hC : ∀ k < 9, ∀ m < 8, cC k m = true
theorem nat_of {d : Int} {n : Nat} (h0 : 0 ≤ d) (h1 : d < n) : ∃ k < n, d = (k : Int) := ⟨d.toNat, by omega, by omega⟩
section
variable {sc : PyData} {env e : Me} {hp h : Mh}
theorem one_step {s : ES} {env1 : Me} {hp1 : Mh} (q : s env hp = some (.nx, env1, hp1)) : esSeq [s] env hp = some (.nx, env1, hp1) := (seq_cons q).trans rfl
theorem lst8_ok {r : Int} (hr : env[18]? = some (some (.d (.int r)))) : lst8 env hp = some (.d (.list [.tuple [.int 2, .int 3, .int 3], .tuple [.int 2, .int 3, .int 4], .tuple [.int 2, .int 3, .int 5], .tuple [.int 2, .int 2, .int r], .tuple [.int 2, .int 3, .int 6], .tuple [.int 2, .int 4, .int 4], .tuple [.int 3, .int 3, .int 3], .tuple [.int 3, .int 2, .int 5]]), hp) := by
  have hv : evFz (evVar 18) env hp = some (.d (.int r), hp) := fz_ok (var_ok hr)
  have t3 : ∀ {f g k : Ev} {a b c : Int}, f env hp = some (.d (.int a), hp) → g env hp = some (.d (.int b), hp) → k env hp = some (.d (.int c), hp) → evTup [f, g, k] env hp = some (.d (.tuple [.int a, .int b, .int c]), hp) := by
    intro f g k a b c hf hg hk
    unfold evTup
    simp only [evAll, hf, hg, hk, Option.bind_some, datas]
    rfl
  unfold lst8 evSt evLst
  simp only [evAll, Option.bind_some, t3 (show evFz (ki 2) env hp = some (.d (.int 2), hp) from rfl) (show evFz (ki 3) env hp = some (.d (.int 3), hp) from rfl) (show evFz (ki 3) env hp = some (.d (.int 3), hp) from rfl), t3 (show evFz (ki 2) env hp = some (.d (.int 2), hp) from rfl) (show evFz (ki 3) env hp = some (.d (.int 3), hp) from rfl) (show evFz (ki 4) env hp = some (.d (.int 4), hp) from rfl), t3 (show evFz (ki 2) env hp = some (.d (.int 2), hp) from rfl) (show evFz (ki 3) env hp = some (.d (.int 3), hp) from rfl) (show evFz (ki 5) env hp = some (.d (.int 5), hp) from rfl), t3 (show evFz (ki 2) env hp = some (.d (.int 2), hp) from rfl) (show evFz (ki 2) env hp = some (.d (.int 2), hp) from rfl) hv, t3 (show evFz (ki 2) env hp = some (.d (.int 2), hp) from rfl) (show evFz (ki 3) env hp = some (.d (.int 3), hp) from rfl) (show evFz (ki 6) env hp = some (.d (.int 6), hp) from rfl), t3 (show evFz (ki 2) env hp = some (.d (.int 2), hp) from rfl) (show evFz (ki 4) env hp = some (.d (.int 4), hp) from rfl) (show evFz (ki 4) env hp = some (.d (.int 4), hp) from rfl), t3 (show evFz (ki 3) env hp = some (.d (.int 3), hp) from rfl) (show evFz (ki 3) env hp = some (.d (.int 3), hp) from rfl) (show evFz (ki 3) env hp = some (.d (.int 3), hp) from rfl), t3 (show evFz (ki 3) env hp = some (.d (.int 3), hp) from rfl) (show evFz (ki 2) env hp = some (.d (.int 2), hp) from rfl) (show evFz (ki 5) env hp = some (.d (.int 5), hp) from rfl)]
  rfl
theorem lst3_ok : lst3 env hp = some (.d (.list [.str ⟨⟨[115, 112, 104, 101, 114, 101]⟩⟩, .str ⟨⟨[112, 108, 97, 110, 101]⟩⟩, .str ⟨⟨[115, 97, 100, 100, 108, 101]⟩⟩]), hp) := rfl
end

/-- p, q, r -/
theorem part1 {sc : PyData} {env : Me} {hp : Mh} (D : Draws sc (φ0 8)) (A : At sc env hp (base0 23) []) : ∃ env1 hp1, ∃ p < 9, ∃ q < 9, ∃ r < 9, esSeq ([lw_0 1000 φ0] ++ [lw_1 1000 φ0]) env hp = some (.nx, env1, hp1) ∧ At sc env1 hp1 (e1 p q r) [] := by
  obtain ⟨d1, hp1, a1, b1, q1, A1⟩ := A.draw D (size := 9) (by decide) (by decide)
  obtain ⟨d2, hp2, a2, b2, q2, A2⟩ := A1.draw D (size := 9) (by decide) (by decide)
  obtain ⟨d3, hp3, a3, b3, q3, A3⟩ := A2.draw D (size := 9) (by decide) (by decide)
  obtain ⟨p, hp', rfl⟩ := nat_of (n := 9) a1 b1
  obtain ⟨q, hq', rfl⟩ := nat_of (n := 9) a2 b2
  obtain ⟨r, hr', rfl⟩ := nat_of (n := 9) a3 b3
  have r0 : lw_0 1000 φ0 env hp = some (.nx, ((env.set 16 (some (.d (.int (2 + (p : Int)))))).set 17 (some (.d (.int (2 + (q : Int)))))).set 18 (some (.d (.int (2 + (r : Int))))), hp3) := by
    rw [s0]
    exact par3_run (bin_ok rfl q1 rfl) (bin_ok rfl q2 rfl) (bin_ok rfl q3 rfl) set3_run
  have B := ((A3.set 16 (by omega) (.int (2 + p))).set 17 (by omega) (.int (2 + q))).set 18 (by omega) (.int (2 + r))
  obtain ⟨d4, hp4, a4, b4, q4, A4⟩ := B.draw D (size := 2) (by decide) (by decide)
  have u := cmp_ok (op := cmpM .Eq) (g := ki 0) q4 rfl (eq_int d4 0 hp4)
  by_cases hd : d4 = 0
  · obtain ⟨d5, hp5, a5, b5, q5, A5⟩ := A4.draw D (size := 8) (by decide) (by decide)
    have hl := A4.len
    have h18 : (((env.set 16 (some (.d (.int (2 + (p : Int)))))).set 17 (some (.d (.int (2 + (q : Int)))))).set 18 (some (.d (.int (2 + (r : Int))))))[18]? = some (some (.d (.int (2 + (r : Int))))) := by
      rw [List.getElem?_set_self]
      have : env.length = 25 := A.len
      simp [this]
    have key : ∀ (x y z : Nat), x < 9 → y < 9 → z < 9 → atI [MV.d (.tuple [.int 2, .int 3, .int 3]), .d (.tuple [.int 2, .int 3, .int 4]), .d (.tuple [.int 2, .int 3, .int 5]), .d (.tuple [.int 2, .int 2, .int (2 + r)]), .d (.tuple [.int 2, .int 3, .int 6]), .d (.tuple [.int 2, .int 4, .int 4]), .d (.tuple [.int 3, .int 3, .int 3]), .d (.tuple [.int 3, .int 2, .int 5])] d5 = some (.d (.tuple [.int (2 + x), .int (2 + y), .int (2 + z)])) → ∃ env1 hp1, ∃ p < 9, ∃ q < 9, ∃ r < 9, esSeq ([lw_0 1000 φ0] ++ [lw_1 1000 φ0]) env hp = some (.nx, env1, hp1) ∧ At sc env1 hp1 (e1 p q r) [] := by
      intro x y z hx hy hz hat
      have C := ((A5.set 16 (by omega) (.int (2 + x))).set 17 (by omega) (.int (2 + y))).set 18 (by omega) (.int (2 + z))
      refine ⟨_, _, x, hx, y, hy, z, hz, (seq_app (one_step r0)).trans (one_step ?_), C⟩
      rw [s1, if_ok u, if_pos (by simpa using hd)]
      refine one_step (asg_run (bin_ok (z := .d (.tuple [.int (2 + x), .int (2 + y), .int (2 + z)])) (lst8_ok h18) q5 ?_) rfl)
      show ixL (.d (.list _)) d5 hp5 = _
      unfold ixL
      show (match atI [MV.d (.tuple [.int 2, .int 3, .int 3]), .d (.tuple [.int 2, .int 3, .int 4]), .d (.tuple [.int 2, .int 3, .int 5]), .d (.tuple [.int 2, .int 2, .int (2 + r)]), .d (.tuple [.int 2, .int 3, .int 6]), .d (.tuple [.int 2, .int 4, .int 4]), .d (.tuple [.int 3, .int 3, .int 3]), .d (.tuple [.int 3, .int 2, .int 5])] d5 with | some x => some (R.v x) | none => none) = _
      rw [hat]
    obtain ⟨k, hk, rfl⟩ := nat_of (n := 8) a5 b5
    match k, hk with
    | 0, _ => exact key 0 1 1 (by omega) (by omega) (by omega) rfl
    | 1, _ => exact key 0 1 2 (by omega) (by omega) (by omega) rfl
    | 2, _ => exact key 0 1 3 (by omega) (by omega) (by omega) rfl
    | 3, _ => exact key 0 0 r (by omega) (by omega) hr' rfl
    | 4, _ => exact key 0 1 4 (by omega) (by omega) (by omega) rfl
    | 5, _ => exact key 0 2 2 (by omega) (by omega) (by omega) rfl
    | 6, _ => exact key 1 1 1 (by omega) (by omega) (by omega) rfl
    | 7, _ => exact key 1 0 3 (by omega) (by omega) (by omega) rfl
    | k + 8, hk => omega
  · refine ⟨_, _, p, hp', q, hq', r, hr', (seq_app (one_step r0)).trans (one_step ?_), A4⟩
    rw [s1, if_ok u, if_neg (by simpa using hd)]
    rfl
theorem pure_part {sc : PyData} {env e : Me} {hp h : Mh} {i j : Nat} {k : Me → Mh → Bool} (A : At sc env hp e h) (q : okNx (sg i j e h) k = true) : ∃ env1 hp1 e1 h1, esSeq ((lwAll 1000 φ0).extract i j) env hp = some (.nx, env1, hp1) ∧ At sc env1 hp1 e1 h1 ∧ k e1 h1 = true := by
  have := A.run (sg_f i j) q
  rw [sg_eq] at this
  exact this
theorem at_len {sc : PyData} {env e e' : Me} {hp h h' : Mh} (A : At sc env hp e h) : e.length = env.length := A.len.symm
theorem body_ok (K : Checks) {sc : PyData} (D : Draws sc (φ0 8)) (i : Int) (env : Me) (hp : Mh) (A0 : At sc env hp (base0 23) []) : ∃ env1 hp1, esSeq (lwAll 1000 φ0) (env.set 2 (some (.d (.int i)))) hp = some (.nx, env1, hp1) ∧ At sc env1 hp1 (base0 23) [] := by
  have A := (A0.set 2 (by omega) (.int i)).reset 23 rfl
  obtain ⟨n1, p1, p, hp', q, hq', r, hr', z1, A1⟩ := part1 D A
  obtain ⟨n2, p2, m2, h2, z2, A2, w2⟩ := pure_part (i := 2) (j := 6) A1 (K.h1 p hp' q hq' r hr')
  have A2 := A2.weaken w2
  obtain ⟨d, p3, a3, b3, q3, A3⟩ := A2.draw D (size := 9) (by decide) (by decide)
  obtain ⟨k, hk, rfl⟩ := nat_of (n := 9) a3 b3
  have z3 : lw_6 1000 φ0 n2 p2 = some (.nx, n2.set 6 (some (.d (.int (2 + (k : Int))))), p3) := by
    rw [s6]
    exact asg_run (bin_ok rfl q3 rfl) rfl
  have A3 := A3.set 6 (by omega) (.int (2 + (k : Int)))
  obtain ⟨n4, p4, m4, h4, z4, A4, w4⟩ := pure_part (i := 7) (j := 9) A3 (K.hA k hk)
  have A4 := A4.weaken w4
  obtain ⟨d, p5, a5, b5, q5, A5⟩ := A4.draw D (size := 3) (by decide) (by decide)
  obtain ⟨wi, hwi, rfl⟩ := nat_of (n := 3) a5 b5
  have key : ∀ w ∈ words, lw_9 1000 φ0 n4 p4 = some (.nx, n4.set 9 (some (.d (.str w))), p5) → ∃ env1 hp1, esSeq (lwAll 1000 φ0) (env.set 2 (some (.d (.int i)))) hp = some (.nx, env1, hp1) ∧ At sc env1 hp1 (base0 23) [] := by
    intro w hw z5
    have A5 := A5.set 9 (by omega) (.str w)
    obtain ⟨n6, p6, m6, h6, z6, A6, w6⟩ := pure_part (i := 10) (j := 13) A5 (K.hB k hk w hw)
    have A6 := A6.weaken w6
    obtain ⟨d, p7, a7, b7, q7, A7⟩ := A6.draw D (size := 8) (by decide) (by decide)
    obtain ⟨m, hm, rfl⟩ := nat_of (n := 8) a7 b7
    have z7 : lw_13 1000 φ0 n6 p6 = some (.nx, (n6.set 21 (some (.d (.int (m : Int))))).set 22 (some (.d (.list []))), p7) := by
      rw [s13]
      exact par2_run q7 rfl set2_run
    have A7 := (A7.set 21 (by omega) (.int (m : Int))).set 22 (by omega) (.list [])
    obtain ⟨n8, p8, m8, h8, z8, A8, w8⟩ := pure_part (i := 14) (j := 19) A7 (K.hC k hk m hm)
    have A8 := A8.weaken w8
    obtain ⟨d, p9, a9, b9, q9, A9⟩ := A8.draw D (size := 5) (by decide) (by decide)
    obtain ⟨d', p10, a10, b10, q10, A10⟩ := A9.draw D (size := 5) (by decide) (by decide)
    obtain ⟨x, hx, rfl⟩ := nat_of (n := 5) a9 b9
    obtain ⟨y, hy, rfl⟩ := nat_of (n := 5) a10 b10
    have z10 : lw_19 1000 φ0 n8 p8 = some (.nx, (n8.set 16 (some (.d (.int (3 + (x : Int)))))).set 17 (some (.d (.int (3 + (y : Int))))), p10) := by
      rw [s19]
      exact par2_run (bin_ok rfl q9 rfl) (bin_ok rfl q10 rfl) set2_run
    have A10 := (A10.set 16 (by omega) (.int (3 + (x : Int)))).set 17 (by omega) (.int (3 + (y : Int)))
    obtain ⟨n11, p11, m11, h11, z11, A11, w11⟩ := pure_part (i := 20) (j := 23) A10 (K.h3 x hx y hy)
    have A11 := A11.weaken w11
    obtain ⟨d, p12, a12, b12, q12, A12⟩ := A11.draw D (size := 60) (by decide) (by decide)
    obtain ⟨d', p13, a13, b13, q13, A13⟩ := A12.draw D (size := 12) (by decide) (by decide)
    obtain ⟨a, ha, rfl⟩ := nat_of (n := 60) a12 b12
    obtain ⟨b, hb, rfl⟩ := nat_of (n := 12) a13 b13
    have z13 : lw_23 1000 φ0 n11 p11 = some (.nx, (n11.set 8 (some (.d (.int ((a : Int) - 30))))).set 19 (some (.d (.int (1 + (b : Int))))), p13) := by
      rw [s23]
      exact par2_run (bin_ok q12 rfl rfl) (bin_ok rfl q13 rfl) set2_run
    have A13 := (A13.set 8 (by omega) (.int ((a : Int) - 30))).set 19 (by omega) (.int (1 + (b : Int)))
    obtain ⟨n14, p14, m14, h14, z14, A14, w14⟩ := pure_part (i := 24) (j := 25) A13 (K.h4 a ha b hb)
    have A14 := A14.weaken w14
    refine ⟨n14, p14, ?_, A14⟩
    rw [split, ← List.append_assoc, seq_app z1, seq_app z2, seq_app (one_step z3), seq_app z4, seq_app (one_step z5), seq_app z6, seq_app (one_step z7), seq_app z8, seq_app (one_step z10), seq_app z11, seq_app (one_step z13), z14]
  match wi, hwi with
  | 0, _ => exact key _ (by decide +kernel : (⟨⟨[115, 112, 104, 101, 114, 101]⟩⟩ : Str) ∈ words) (by rw [s9]; exact asg_run (bin_ok lst3_ok q5 rfl) rfl)
  | 1, _ => exact key _ (by decide +kernel : (⟨⟨[112, 108, 97, 110, 101]⟩⟩ : Str) ∈ words) (by rw [s9]; exact asg_run (bin_ok lst3_ok q5 rfl) rfl)
  | 2, _ => exact key _ (by decide +kernel : (⟨⟨[115, 97, 100, 100, 108, 101]⟩⟩ : Str) ∈ words) (by rw [s9]; exact asg_run (bin_ok lst3_ok q5 rfl) rfl)
  | k + 3, h => omega
/-- what is given back -/
noncomputable def lwR (φ : F0) : ES := esRetF (evFzF (evAndF (evOfTF (evCmpF (cmpMF .Eq) (evCallF (φ 5) (evC (evFzF (ki 3)) (evC (evFzF (ki 9)) evN))) (evStF (evLstF (evC ((evTupF (evC (evFzF (evTupF (evC (evFzF (ki 1)) (evC (evFzF (ki 42)) evN)))) (evC (evFzF (evTupF (evC (evFzF (ki 2)) (evC (evFzF (ki 3)) (evC (evFzF (ki 7)) evN))))) evN)))) (evC ((evTupF (evC (evFzF (evTupF (evC (evFzF (ki 1)) (evC (evFzF (ki 24)) evN)))) (evC (evFzF (evTupF (evC (evFzF (ki 2)) (evC (evFzF (ki 3)) (evC (evFzF (ki 8)) evN))))) evN)))) (evC ((evTupF (evC (evFzF (evTupF (evC (evFzF (ki 1)) (evC (evFzF (ki 20)) evN)))) (evC (evFzF (evTupF (evC (evFzF (ki 2)) (evC (evFzF (ki 4)) (evC (evFzF (ki 5)) evN))))) evN)))) evN))))))) (evOfTF (evCmpF (cmpMF .Eq) (evCallF (φ 6) (evC (evFzF (ki 5)) (evC (evFzF (ki 3)) evN))) (evTupF (evC (evFzF (ki 12)) (evC (evFzF (ki 30)) (evC (evFzF (ki 20)) evN))))))))
def retB : Stmt := ((defBody d_law.st)[2]?).getD (.Pass ⟨0, 0, 0, 0⟩)
theorem lwR_comp (φ : F0) : compS 40 (ct φ) scl retB = some (lwR φ) := by
  unfold lwR
  simp only [opMulF_eq, cmpMF_eq, evN_eq, evC_eq, egN_eq, egC_eq, sqN_eq, sqC_eq, evVarF_eq, evFzF_eq, evStF_eq, evMkF_eq, evBinF_eq, evUnF_eq, evBltF_eq, evCmpF_eq, evOfTF_eq, etTruF_eq, etNotF_eq, etAndF_eq, etOrF_eq, evIfF_eq, evAndF_eq, evOrF_eq, evTupF_eq, evLstF_eq, evCallF_eq, evMtF_eq, evIsiF_eq, egNameF_eq, egTupF_eq, esAsgF_eq, esParF_eq, esExprF_eq, esRetF_eq, esIfF_eq, goWhileF_eq, eiSeqF_eq, eiRng1F_eq, eiRng2F_eq, esForF_eq, evLcF_eq]
  kernel_rfl
def isRt (r : Option (Out × Me × Mh)) : Bool := match r with
  | some (.rt (.d (.bool true)), _, _) => true
  | _ => false
theorem isRt_ok {r : Option (Out × Me × Mh)} (h : isRt r = true) : ∃ e hp, r = some (.rt (.d (.bool true)), e, hp) := by
  unfold isRt at h
  split at h
  · exact ⟨_, _, rfl⟩
  · cases h
theorem whole (φ : F0) : b_law 1000 φ = esSeq [esAsg (evMk (evLst [ki 0, ki 0])) (egName 1), esFor (eiRng1 (ki 4)) (egName 2) (esSeq (lwAll 1000 φ)), lwR φ] := by
  unfold b_law lwR lwAll
  simp only [opMulF_eq, cmpMF_eq, evN_eq, evC_eq, egN_eq, egC_eq, sqN_eq, sqC_eq, evVarF_eq, evFzF_eq, evStF_eq, evMkF_eq, evBinF_eq, evUnF_eq, evBltF_eq, evCmpF_eq, evOfTF_eq, etTruF_eq, etNotF_eq, etAndF_eq, etOrF_eq, evIfF_eq, evAndF_eq, evOrF_eq, evTupF_eq, evLstF_eq, evCallF_eq, evMtF_eq, evIsiF_eq, egNameF_eq, egTupF_eq, esAsgF_eq, esParF_eq, esExprF_eq, esRetF_eq, esIfF_eq, goWhileF_eq, eiSeqF_eq, eiRng1F_eq, eiRng2F_eq, esForF_eq, evLcF_eq]
theorem law_true (K : Checks) (hR : isRt (lwR φ0 (base0 23) []) = true) (ns : List Int) : sem T [] 1000 12 12 [.d (.list (ns.map .int))] [] = some (.d (.bool true), []) := by
  rw [sem_run (d := d_law) rfl rfl (bk_law 1000 _), ← φ0_eq, whole]
  have D := draws ns
  have A0 : At (.list (ns.map .int)) (some (.d (.list (ns.map .int))) :: some (.c 0) :: List.replicate 23 none) [.lst [.d (.int 0), .d (.int 0)]] (base0 23) [] := by
    refine ⟨⟨⟨[.lst [.d (.int 0), .d (.int 0)]], fun q => match q with | [(.int i, _)] => if i = 0 then .d (.list (ns.map .int)) else .c 0 | _ => .c 0⟩, ⟨rfl, fun i x q => ?_⟩, rfl, rfl, rfl, 0, 0, rfl⟩, rfl, rfl⟩
    match i, q with
    | 0, q => cases q; rfl
    | 1, q => cases q; rfl
    | i + 2, q =>
      have q : (List.replicate 23 (none : Option MV))[i]? = some (some x) := q
      rw [List.getElem?_replicate] at q
      split at q <;> cases q
  obtain ⟨e2, h2, z2, A2⟩ := for_inv (Inv := fun env hp => At (.list (ns.map .int)) env hp (base0 23) []) (lo := 0) (n := 4) (s := 2) (fun i env hp A => body_ok K D i env hp A) 4 0 _ _ (by omega) A0
  obtain ⟨e3, h3, z3⟩ := isRt_ok hR
  obtain ⟨t, O, hh, _⟩ := A2.ex
  have F : FS t (lwR φ0) := gfS _ _ _ _ _ ⟨φ0_f t, fun x v h => by have := gOf_dat h; cases this⟩ (lwR_comp φ0)
  obtain ⟨e4, z4, _⟩ := F _ _ _ _ _ _ O z3
  have r1 : esAsg (evMk (evLst [ki 0, ki 0])) (egName 1) (some (.d (.list (ns.map .int))) :: List.replicate 24 none) [] = some (.nx, some (.d (.list (ns.map .int))) :: some (.c 0) :: List.replicate 23 none, [.lst [.d (.int 0), .d (.int 0)]]) := rfl
  have r2 : esFor (eiRng1 (ki 4)) (egName 2) (esSeq (lwAll 1000 φ0)) (some (.d (.list (ns.map .int))) :: some (.c 0) :: List.replicate 23 none) [.lst [.d (.int 0), .d (.int 0)]] = some (.nx, e2, h2) := z2
  have r3 : lwR φ0 e2 h2 = some (.rt (.d (.bool true)), e4, t.h h3) := by
    rw [hh]
    exact z4
  have r : esSeq [esAsg (evMk (evLst [ki 0, ki 0])) (egName 1), esFor (eiRng1 (ki 4)) (egName 2) (esSeq (lwAll 1000 φ0)), lwR φ0] (some (.d (.list (ns.map .int))) :: List.replicate 24 none) [] = some (.rt (.d (.bool true)), e4, t.h h3) := (seq_cons r1).trans ((seq_cons r2).trans (seq_rt r3))
  unfold runBody
  show (match esSeq [esAsg (evMk (evLst [ki 0, ki 0])) (egName 1), esFor (eiRng1 (ki 4)) (egName 2) (esSeq (lwAll 1000 φ0)), lwR φ0] (some (.d (.list (ns.map .int))) :: List.replicate 24 none) [] with | some (.nx, _, hp') => some (MV.d .none, hp'.take 0) | some (.rt (.d x), _, hp') => some (.d x, hp'.take 0) | some (.rt (.c n), _, hp') => some (.c n, hp') | _ => none) = _
  rw [r]
  rfl
end L2.MP.K73
/-! Law k73: the head. -/
namespace L2.MP.K73
open PySem PySem.Spec PyProof.Rows L2.MP

theorem blt_of {P : Str → Prop} (z0 : P "len") (z1 : P "abs") (z2 : P "int") (z3 : P "min") (z4 : P "max") (z5 : P "list") (z6 : P "tuple") (z7 : P "all") (z8 : P "any") (z9 : P "str") (z10 : P "bool") (z11 : P "isinstance") (z12 : P "range") (z13 : P "sum") (z14 : P "sorted") (z15 : P "set") (z16 : P "enumerate") (z17 : P "zip") (z18 : P "reversed") : ∀ x ∈ bltNames, P x := by
  intro x hx
  simp only [bltNames, List.mem_cons, List.mem_nil_iff, or_false] at hx
  rcases hx with rfl | rfl | rfl | rfl | rfl | rfl | rfl | rfl | rfl | rfl | rfl | rfl | rfl | rfl | rfl | rfl | rfl | rfl | rfl
  · exact z0
  · exact z1
  · exact z2
  · exact z3
  · exact z4
  · exact z5
  · exact z6
  · exact z7
  · exact z8
  · exact z9
  · exact z10
  · exact z11
  · exact z12
  · exact z13
  · exact z14
  · exact z15
  · exact z16
  · exact z17
  · exact z18
theorem sco_0 : FnScope d_lowest.N d_lowest.ps (defScope d_lowest.st) := ⟨rfl, rfl, rfl, by decide +kernel, rfl, by decide +kernel, by decide +kernel⟩
theorem sco_1 : FnScope d_excess.N d_excess.ps (defScope d_excess.st) := ⟨rfl, rfl, rfl, by decide +kernel, rfl, by decide +kernel, by decide +kernel⟩
theorem sco_2 : FnScope d_kind_of_triangle.N d_kind_of_triangle.ps (defScope d_kind_of_triangle.st) := ⟨rfl, rfl, rfl, by decide +kernel, rfl, by decide +kernel, by decide +kernel⟩
theorem sco_3 : FnScope d_sphere_order.N d_sphere_order.ps (defScope d_sphere_order.st) := ⟨rfl, rfl, rfl, by decide +kernel, rfl, by decide +kernel, by decide +kernel⟩
theorem sco_4 : FnScope d_all_triangles.N d_all_triangles.ps (defScope d_all_triangles.st) := ⟨rfl, rfl, rfl, by decide +kernel, rfl, by decide +kernel, by decide +kernel⟩
theorem sco_5 : FnScope d_least_saddles.N d_least_saddles.ps (defScope d_least_saddles.st) := ⟨rfl, rfl, rfl, by decide +kernel, rfl, by decide +kernel, by decide +kernel⟩
theorem sco_6 : FnScope d_sphere_names.N d_sphere_names.ps (defScope d_sphere_names.st) := ⟨rfl, rfl, rfl, by decide +kernel, rfl, by decide +kernel, by decide +kernel⟩
theorem sco_7 : FnScope d__law_refill.N d__law_refill.ps (defScope d__law_refill.st) := ⟨rfl, rfl, rfl, by decide +kernel, rfl, by decide +kernel, by decide +kernel⟩
theorem sco_8 : FnScope d__law_draw.N d__law_draw.ps (defScope d__law_draw.st) := ⟨rfl, rfl, rfl, by decide +kernel, rfl, by decide +kernel, by decide +kernel⟩
theorem sco_9 : FnScope d__law_exact.N d__law_exact.ps (defScope d__law_exact.st) := ⟨rfl, rfl, rfl, by decide +kernel, rfl, by decide +kernel, by decide +kernel⟩
theorem sco_10 : FnScope d__law_lowest.N d__law_lowest.ps (defScope d__law_lowest.st) := ⟨rfl, rfl, rfl, by decide +kernel, rfl, by decide +kernel, by decide +kernel⟩
theorem sco_11 : FnScope d__law_excess.N d__law_excess.ps (defScope d__law_excess.st) := ⟨rfl, rfl, rfl, by decide +kernel, rfl, by decide +kernel, by decide +kernel⟩
theorem sco_12 : FnScope d_law.N d_law.ps (defScope d_law.st) := ⟨rfl, rfl, rfl, by decide +kernel, rfl, by decide +kernel, by decide +kernel⟩
theorem sco_all : ∀ d ∈ T, FnScope d.N d.ps (defScope d.st) := by
  intro d hd
  simp only [T, List.mem_cons, List.mem_nil_iff, or_false] at hd
  rcases hd with rfl | rfl | rfl | rfl | rfl | rfl | rfl | rfl | rfl | rfl | rfl | rfl | rfl
  · exact sco_0
  · exact sco_1
  · exact sco_2
  · exact sco_3
  · exact sco_4
  · exact sco_5
  · exact sco_6
  · exact sco_7
  · exact sco_8
  · exact sco_9
  · exact sco_10
  · exact sco_11
  · exact sco_12
set_option maxHeartbeats 0 in
theorem all_mk {w : World} {K : PySem.W.Frag} {h : Heap} {mg : Str → Option Value} {fa : Addr} (X : K.In h) (G : h.Ns mainGlobals mg) (hfa : mg "law" = some (.ref fa))
    {f0 : Addr} {od0 an0 : Option Addr} {sl0 : Array (Option Value)} {oc0 kV0 dc0 pm0 cd0 ct0 : Value}
    (a0 : PySem.W.nsIn K mainGlobals "lowest" = some (some (.ref f0))) (l0 : K.lookup f0 = some ⟨oc0, od0, .func (PySem.W.fnOf "lowest" "lowest" (defArgs d_lowest.st) (defBody d_lowest.st) (defScope d_lowest.st) .none kV0 dc0 pm0 an0 cd0 ct0), sl0⟩) (c0 : PySem.W.codeIn K cd0 "lowest" = true) (k0 : PySem.W.keepIn K (.ref f0) = true)
    {f1 : Addr} {od1 an1 : Option Addr} {sl1 : Array (Option Value)} {oc1 kV1 dc1 pm1 cd1 ct1 : Value}
    (a1 : PySem.W.nsIn K mainGlobals "excess" = some (some (.ref f1))) (l1 : K.lookup f1 = some ⟨oc1, od1, .func (PySem.W.fnOf "excess" "excess" (defArgs d_excess.st) (defBody d_excess.st) (defScope d_excess.st) .none kV1 dc1 pm1 an1 cd1 ct1), sl1⟩) (c1 : PySem.W.codeIn K cd1 "excess" = true) (k1 : PySem.W.keepIn K (.ref f1) = true)
    {f2 : Addr} {od2 an2 : Option Addr} {sl2 : Array (Option Value)} {oc2 kV2 dc2 pm2 cd2 ct2 : Value}
    (a2 : PySem.W.nsIn K mainGlobals "kind_of_triangle" = some (some (.ref f2))) (l2 : K.lookup f2 = some ⟨oc2, od2, .func (PySem.W.fnOf "kind_of_triangle" "kind_of_triangle" (defArgs d_kind_of_triangle.st) (defBody d_kind_of_triangle.st) (defScope d_kind_of_triangle.st) .none kV2 dc2 pm2 an2 cd2 ct2), sl2⟩) (c2 : PySem.W.codeIn K cd2 "kind_of_triangle" = true) (k2 : PySem.W.keepIn K (.ref f2) = true)
    {f3 : Addr} {od3 an3 : Option Addr} {sl3 : Array (Option Value)} {oc3 kV3 dc3 pm3 cd3 ct3 : Value}
    (a3 : PySem.W.nsIn K mainGlobals "sphere_order" = some (some (.ref f3))) (l3 : K.lookup f3 = some ⟨oc3, od3, .func (PySem.W.fnOf "sphere_order" "sphere_order" (defArgs d_sphere_order.st) (defBody d_sphere_order.st) (defScope d_sphere_order.st) .none kV3 dc3 pm3 an3 cd3 ct3), sl3⟩) (c3 : PySem.W.codeIn K cd3 "sphere_order" = true) (k3 : PySem.W.keepIn K (.ref f3) = true)
    {f4 : Addr} {od4 an4 : Option Addr} {sl4 : Array (Option Value)} {oc4 kV4 dc4 pm4 cd4 ct4 : Value}
    (a4 : PySem.W.nsIn K mainGlobals "all_triangles" = some (some (.ref f4))) (l4 : K.lookup f4 = some ⟨oc4, od4, .func (PySem.W.fnOf "all_triangles" "all_triangles" (defArgs d_all_triangles.st) (defBody d_all_triangles.st) (defScope d_all_triangles.st) .none kV4 dc4 pm4 an4 cd4 ct4), sl4⟩) (c4 : PySem.W.codeIn K cd4 "all_triangles" = true) (k4 : PySem.W.keepIn K (.ref f4) = true)
    {f5 : Addr} {od5 an5 : Option Addr} {sl5 : Array (Option Value)} {oc5 kV5 dc5 pm5 cd5 ct5 : Value}
    (a5 : PySem.W.nsIn K mainGlobals "least_saddles" = some (some (.ref f5))) (l5 : K.lookup f5 = some ⟨oc5, od5, .func (PySem.W.fnOf "least_saddles" "least_saddles" (defArgs d_least_saddles.st) (defBody d_least_saddles.st) (defScope d_least_saddles.st) .none kV5 dc5 pm5 an5 cd5 ct5), sl5⟩) (c5 : PySem.W.codeIn K cd5 "least_saddles" = true) (k5 : PySem.W.keepIn K (.ref f5) = true)
    {f6 : Addr} {od6 an6 : Option Addr} {sl6 : Array (Option Value)} {oc6 kV6 dc6 pm6 cd6 ct6 : Value}
    (a6 : PySem.W.nsIn K mainGlobals "sphere_names" = some (some (.ref f6))) (l6 : K.lookup f6 = some ⟨oc6, od6, .func (PySem.W.fnOf "sphere_names" "sphere_names" (defArgs d_sphere_names.st) (defBody d_sphere_names.st) (defScope d_sphere_names.st) .none kV6 dc6 pm6 an6 cd6 ct6), sl6⟩) (c6 : PySem.W.codeIn K cd6 "sphere_names" = true) (k6 : PySem.W.keepIn K (.ref f6) = true)
    {f7 : Addr} {od7 an7 : Option Addr} {sl7 : Array (Option Value)} {oc7 kV7 dc7 pm7 cd7 ct7 : Value}
    (a7 : PySem.W.nsIn K mainGlobals "_law_refill" = some (some (.ref f7))) (l7 : K.lookup f7 = some ⟨oc7, od7, .func (PySem.W.fnOf "_law_refill" "_law_refill" (defArgs d__law_refill.st) (defBody d__law_refill.st) (defScope d__law_refill.st) .none kV7 dc7 pm7 an7 cd7 ct7), sl7⟩) (c7 : PySem.W.codeIn K cd7 "_law_refill" = true) (k7 : PySem.W.keepIn K (.ref f7) = true)
    {f8 : Addr} {od8 an8 : Option Addr} {sl8 : Array (Option Value)} {oc8 kV8 dc8 pm8 cd8 ct8 : Value}
    (a8 : PySem.W.nsIn K mainGlobals "_law_draw" = some (some (.ref f8))) (l8 : K.lookup f8 = some ⟨oc8, od8, .func (PySem.W.fnOf "_law_draw" "_law_draw" (defArgs d__law_draw.st) (defBody d__law_draw.st) (defScope d__law_draw.st) .none kV8 dc8 pm8 an8 cd8 ct8), sl8⟩) (c8 : PySem.W.codeIn K cd8 "_law_draw" = true) (k8 : PySem.W.keepIn K (.ref f8) = true)
    {f9 : Addr} {od9 an9 : Option Addr} {sl9 : Array (Option Value)} {oc9 kV9 dc9 pm9 cd9 ct9 : Value}
    (a9 : PySem.W.nsIn K mainGlobals "_law_exact" = some (some (.ref f9))) (l9 : K.lookup f9 = some ⟨oc9, od9, .func (PySem.W.fnOf "_law_exact" "_law_exact" (defArgs d__law_exact.st) (defBody d__law_exact.st) (defScope d__law_exact.st) .none kV9 dc9 pm9 an9 cd9 ct9), sl9⟩) (c9 : PySem.W.codeIn K cd9 "_law_exact" = true) (k9 : PySem.W.keepIn K (.ref f9) = true)
    {f10 : Addr} {od10 an10 : Option Addr} {sl10 : Array (Option Value)} {oc10 kV10 dc10 pm10 cd10 ct10 : Value}
    (a10 : PySem.W.nsIn K mainGlobals "_law_lowest" = some (some (.ref f10))) (l10 : K.lookup f10 = some ⟨oc10, od10, .func (PySem.W.fnOf "_law_lowest" "_law_lowest" (defArgs d__law_lowest.st) (defBody d__law_lowest.st) (defScope d__law_lowest.st) .none kV10 dc10 pm10 an10 cd10 ct10), sl10⟩) (c10 : PySem.W.codeIn K cd10 "_law_lowest" = true) (k10 : PySem.W.keepIn K (.ref f10) = true)
    {f11 : Addr} {od11 an11 : Option Addr} {sl11 : Array (Option Value)} {oc11 kV11 dc11 pm11 cd11 ct11 : Value}
    (a11 : PySem.W.nsIn K mainGlobals "_law_excess" = some (some (.ref f11))) (l11 : K.lookup f11 = some ⟨oc11, od11, .func (PySem.W.fnOf "_law_excess" "_law_excess" (defArgs d__law_excess.st) (defBody d__law_excess.st) (defScope d__law_excess.st) .none kV11 dc11 pm11 an11 cd11 ct11), sl11⟩) (c11 : PySem.W.codeIn K cd11 "_law_excess" = true) (k11 : PySem.W.keepIn K (.ref f11) = true)
    {f12 : Addr} {od12 an12 : Option Addr} {sl12 : Array (Option Value)} {oc12 kV12 dc12 pm12 cd12 ct12 : Value}
    (a12 : PySem.W.nsIn K mainGlobals "law" = some (some (.ref f12))) (l12 : K.lookup f12 = some ⟨oc12, od12, .func (PySem.W.fnOf "law" "law" (defArgs d_law.st) (defBody d_law.st) (defScope d_law.st) .none kV12 dc12 pm12 an12 cd12 ct12), sl12⟩) (c12 : PySem.W.codeIn K cd12 "law" = true) (k12 : PySem.W.keepIn K (.ref f12) = true)
    (z0 : PySem.W.nsIn K mainGlobals "len" = some none) (z1 : PySem.W.nsIn K mainGlobals "abs" = some none) (z2 : PySem.W.nsIn K mainGlobals "int" = some none) (z3 : PySem.W.nsIn K mainGlobals "min" = some none) (z4 : PySem.W.nsIn K mainGlobals "max" = some none) (z5 : PySem.W.nsIn K mainGlobals "list" = some none) (z6 : PySem.W.nsIn K mainGlobals "tuple" = some none) (z7 : PySem.W.nsIn K mainGlobals "all" = some none) (z8 : PySem.W.nsIn K mainGlobals "any" = some none) (z9 : PySem.W.nsIn K mainGlobals "str" = some none) (z10 : PySem.W.nsIn K mainGlobals "bool" = some none) (z11 : PySem.W.nsIn K mainGlobals "isinstance" = some none) (z12 : PySem.W.nsIn K mainGlobals "range" = some none) (z13 : PySem.W.nsIn K mainGlobals "sum" = some none) (z14 : PySem.W.nsIn K mainGlobals "sorted" = some none) (z15 : PySem.W.nsIn K mainGlobals "set" = some none) (z16 : PySem.W.nsIn K mainGlobals "enumerate" = some none) (z17 : PySem.W.nsIn K mainGlobals "zip" = some none) (z18 : PySem.W.nsIn K mainGlobals "reversed" = some none) :
    ∃ fd : FuncData, (∀ (s : Shared) (v : Value), BindsTo s fd ⟨[v], []⟩ [("script", v)]) ∧ ∀ base : Heap, K.In base → base.Ns mainGlobals mg → FnOk PySem.Challenge.rw_ornamentwright_k73_whole_triangles.prog w K mg base CX0 12 fa fd ["script"] (spF K 1 (sem T [] 1000 12 12)) := by
  have e := hfa.symm.trans (PySem.W.mg_of X G a12)
  cases e
  have F0 := fun_mk (st := d_lowest.st) l0 c0 k0
  have b0 := F0.binds (ps := d_lowest.ps) fun _ _ _ _ _ _ us hl => match us, hl with | [_, _], _ => rfl
  have F1 := fun_mk (st := d_excess.st) l1 c1 k1
  have b1 := F1.binds (ps := d_excess.ps) fun _ _ _ _ _ _ us hl => match us, hl with | [_, _, _], _ => rfl
  have F2 := fun_mk (st := d_kind_of_triangle.st) l2 c2 k2
  have b2 := F2.binds (ps := d_kind_of_triangle.ps) fun _ _ _ _ _ _ us hl => match us, hl with | [_, _, _], _ => rfl
  have F3 := fun_mk (st := d_sphere_order.st) l3 c3 k3
  have b3 := F3.binds (ps := d_sphere_order.ps) fun _ _ _ _ _ _ us hl => match us, hl with | [_, _, _], _ => rfl
  have F4 := fun_mk (st := d_all_triangles.st) l4 c4 k4
  have b4 := F4.binds (ps := d_all_triangles.ps) fun _ _ _ _ _ _ us hl => match us, hl with | [_, _], _ => rfl
  have F5 := fun_mk (st := d_least_saddles.st) l5 c5 k5
  have b5 := F5.binds (ps := d_least_saddles.ps) fun _ _ _ _ _ _ us hl => match us, hl with | [_, _], _ => rfl
  have F6 := fun_mk (st := d_sphere_names.st) l6 c6 k6
  have b6 := F6.binds (ps := d_sphere_names.ps) fun _ _ _ _ _ _ us hl => match us, hl with | [_, _], _ => rfl
  have F7 := fun_mk (st := d__law_refill.st) l7 c7 k7
  have b7 := F7.binds (ps := d__law_refill.ps) fun _ _ _ _ _ _ us hl => match us, hl with | [_, _], _ => rfl
  have F8 := fun_mk (st := d__law_draw.st) l8 c8 k8
  have b8 := F8.binds (ps := d__law_draw.ps) fun _ _ _ _ _ _ us hl => match us, hl with | [_, _, _], _ => rfl
  have F9 := fun_mk (st := d__law_exact.st) l9 c9 k9
  have b9 := F9.binds (ps := d__law_exact.ps) fun _ _ _ _ _ _ us hl => match us, hl with | [_, _], _ => rfl
  have F10 := fun_mk (st := d__law_lowest.st) l10 c10 k10
  have b10 := F10.binds (ps := d__law_lowest.ps) fun _ _ _ _ _ _ us hl => match us, hl with | [_, _], _ => rfl
  have F11 := fun_mk (st := d__law_excess.st) l11 c11 k11
  have b11 := F11.binds (ps := d__law_excess.ps) fun _ _ _ _ _ _ us hl => match us, hl with | [_, _, _], _ => rfl
  have F12 := fun_mk (st := d_law.st) l12 c12 k12
  have b12 := F12.binds (ps := d_law.ps) fun _ _ _ _ _ _ us hl => match us, hl with | [_], _ => rfl
  have O : ProgOk K mg T [] := by
    refine ⟨fun k d hd => ?_, sco_all, (fun x v h => by cases h), blt_of (P := fun x => mg x = none) (PySem.W.mg_none_of X G z0) (PySem.W.mg_none_of X G z1) (PySem.W.mg_none_of X G z2) (PySem.W.mg_none_of X G z3) (PySem.W.mg_none_of X G z4) (PySem.W.mg_none_of X G z5) (PySem.W.mg_none_of X G z6) (PySem.W.mg_none_of X G z7) (PySem.W.mg_none_of X G z8) (PySem.W.mg_none_of X G z9) (PySem.W.mg_none_of X G z10) (PySem.W.mg_none_of X G z11) (PySem.W.mg_none_of X G z12) (PySem.W.mg_none_of X G z13) (PySem.W.mg_none_of X G z14) (PySem.W.mg_none_of X G z15) (PySem.W.mg_none_of X G z16) (PySem.W.mg_none_of X G z17) (PySem.W.mg_none_of X G z18)⟩
    match k, hd with
    | 0, hd => cases hd; exact ⟨_, _, PySem.W.mg_of X G a0, F0, b0⟩
    | 1, hd => cases hd; exact ⟨_, _, PySem.W.mg_of X G a1, F1, b1⟩
    | 2, hd => cases hd; exact ⟨_, _, PySem.W.mg_of X G a2, F2, b2⟩
    | 3, hd => cases hd; exact ⟨_, _, PySem.W.mg_of X G a3, F3, b3⟩
    | 4, hd => cases hd; exact ⟨_, _, PySem.W.mg_of X G a4, F4, b4⟩
    | 5, hd => cases hd; exact ⟨_, _, PySem.W.mg_of X G a5, F5, b5⟩
    | 6, hd => cases hd; exact ⟨_, _, PySem.W.mg_of X G a6, F6, b6⟩
    | 7, hd => cases hd; exact ⟨_, _, PySem.W.mg_of X G a7, F7, b7⟩
    | 8, hd => cases hd; exact ⟨_, _, PySem.W.mg_of X G a8, F8, b8⟩
    | 9, hd => cases hd; exact ⟨_, _, PySem.W.mg_of X G a9, F9, b9⟩
    | 10, hd => cases hd; exact ⟨_, _, PySem.W.mg_of X G a10, F10, b10⟩
    | 11, hd => cases hd; exact ⟨_, _, PySem.W.mg_of X G a11, F11, b11⟩
    | 12, hd => cases hd; exact ⟨_, _, PySem.W.mg_of X G a12, F12, b12⟩
    | k + 13, hd => exact absurd hd (by simp [T])
  exact ⟨_, fun s v => .of_eq rfl, fun base _ _ => prog_ok O 12 12 d_law rfl _ _ (PySem.W.mg_of X G a12) F12 b12⟩
end L2.MP.K73
/-! Law k73: the end. -/
namespace L2.MP.K73
open PySem PySem.Spec PyProof.Rows L2.MP
theorem range_all {n : Nat} {f : Nat → Bool} (h : (List.range n).all f = true) : ∀ k < n, f k = true := fun k hk => List.all_eq_true.mp h k (List.mem_range.mpr hk)
theorem checks : Checks where
  h1 := fun p hp => by
    have key : ∀ {p}, ((List.range 9).all fun q => (List.range 9).all fun r => c1 p q r) = true → ∀ q < 9, ∀ r < 9, c1 p q r = true := fun h q hq => range_all (range_all h q hq)
    match p, hp with
    | 0, _ => exact key t1_0
    | 1, _ => exact key t1_1
    | 2, _ => exact key t1_2
    | 3, _ => exact key t1_3
    | 4, _ => exact key t1_4
    | 5, _ => exact key t1_5
    | 6, _ => exact key t1_6
    | 7, _ => exact key t1_7
    | 8, _ => exact key t1_8
    | p + 9, h => omega
  h3 := fun p hp q hq => range_all (range_all t3 p hp) q hq
  h4 := fun a ha b hb => by
    have key : ∀ {lo b}, lo ≤ b → b < lo + 3 → ((List.range 60).all fun a => (List.range' lo 3).all fun b => c4 a b) = true → c4 a b = true := fun h1 h2 h => List.all_eq_true.mp (range_all h a ha) _ (by simp [List.mem_range']; exact ⟨_, by omega, (Nat.add_sub_cancel' h1).symm⟩)
    match b, hb with
    | 0, _ => exact key (lo := 0) (by omega) (by omega) t4_0
    | 1, _ => exact key (lo := 0) (by omega) (by omega) t4_0
    | 2, _ => exact key (lo := 0) (by omega) (by omega) t4_0
    | 3, _ => exact key (lo := 3) (by omega) (by omega) t4_1
    | 4, _ => exact key (lo := 3) (by omega) (by omega) t4_1
    | 5, _ => exact key (lo := 3) (by omega) (by omega) t4_1
    | 6, _ => exact key (lo := 6) (by omega) (by omega) t4_2
    | 7, _ => exact key (lo := 6) (by omega) (by omega) t4_2
    | 8, _ => exact key (lo := 6) (by omega) (by omega) t4_2
    | 9, _ => exact key (lo := 9) (by omega) (by omega) t4_3
    | 10, _ => exact key (lo := 9) (by omega) (by omega) t4_3
    | 11, _ => exact key (lo := 9) (by omega) (by omega) t4_3
    | b + 12, h => omega
  hA := range_all tA
  hB := fun k hk w hw => by
    have key : ∀ {k}, (words.all fun w => cB k w) = true → cB k w = true := fun h => List.all_eq_true.mp h w hw
    match k, hk with
    | 0, _ => exact key tB_0
    | 1, _ => exact key tB_1
    | 2, _ => exact key tB_2
    | 3, _ => exact key tB_3
    | 4, _ => exact key tB_4
    | 5, _ => exact key tB_5
    | 6, _ => exact key tB_6
    | 7, _ => exact key tB_7
    | 8, _ => exact key tB_8
    | k + 9, h => omega
  hC := fun k hk m hm => by
    match k, hk with
    | 0, _ => exact range_all tC_0 m hm
    | 1, _ => exact range_all tC_1 m hm
    | 2, _ => exact range_all tC_2 m hm
    | 3, _ => exact range_all tC_3 m hm
    | 4, _ => exact range_all tC_4 m hm
    | 5, _ =>
      match m, hm with
      | 0, _ => exact tC_5_0
      | 1, _ => exact tC_5_1
      | 2, _ => exact tC_5_2
      | 3, _ => exact tC_5_3
      | 4, _ => exact tC_5_4
      | 5, _ => exact tC_5_5
      | 6, _ => exact tC_5_6
      | 7, _ => exact tC_5_7
      | m + 8, h => omega
    | 6, _ =>
      match m, hm with
      | 0, _ => exact tC_6_0
      | 1, _ => exact tC_6_1
      | 2, _ => exact tC_6_2
      | 3, _ => exact tC_6_3
      | 4, _ => exact tC_6_4
      | 5, _ => exact tC_6_5
      | 6, _ => exact tC_6_6
      | 7, _ => exact tC_6_7
      | m + 8, h => omega
    | 7, _ =>
      match m, hm with
      | 0, _ => exact tC_7_0
      | 1, _ => exact tC_7_1
      | 2, _ => exact tC_7_2
      | 3, _ => exact tC_7_3
      | 4, _ => exact tC_7_4
      | 5, _ => exact tC_7_5
      | 6, _ => exact tC_7_6
      | 7, _ => exact tC_7_7
      | m + 8, h => omega
    | 8, _ =>
      match m, hm with
      | 0, _ => exact tC_8_0
      | 1, _ => exact tC_8_1
      | 2, _ => exact tC_8_2
      | 3, _ => exact tC_8_3
      | 4, _ => exact tC_8_4
      | 5, _ => exact tC_8_5
      | 6, _ => exact tC_8_6
      | 7, _ => exact tC_8_7
      | m + 8, h => omega
    | k + 9, h => omega
theorem ret_ok : isRt (lwR φ0 (base0 23) []) = true := by decide +kernel
end L2.MP.K73
open PySem PySem.W PyProof.Rows L2
set_option maxHeartbeats 0 in
theorem PySem.Challenge.cw_ornamentwright_k73_whole_triangles_holds : PySem.Challenge.rw_ornamentwright_k73_whole_triangles.Holds := by
  w_on; o_law; k_head; (case hw => w_witness2)
  k_fill
  refine L2.walk_of (l := PySem.Challenge.rw_ornamentwright_k73_whole_triangles) (n := 63) (k := 12) (x := "script") (CX := fun _ => L2.CX0) (sp := fun w => L2.MP.spF _ 1 (L2.MP.sem L2.MP.K73.T [] 1000 12 12)) rfl (by decide) rfl ⟨rfl, by decide, by decide⟩ (fun w h Y => PySem.W.kIn_of Y) ?F (fun _ H a ns hl _ hS => L2.MP.law_sp (L2.MP.K73.law_true L2.MP.K73.checks L2.MP.K73.ret_ok ns) hS) (fun _ _ _ _ _ h => h)
  case F =>
    intro w mg fa h KX G hmg
    refine' L2.MP.K73.all_mk KX G hmg ?a0 ?l0 ?c0 ?k0 ?a1 ?l1 ?c1 ?k1 ?a2 ?l2 ?c2 ?k2 ?a3 ?l3 ?c3 ?k3 ?a4 ?l4 ?c4 ?k4 ?a5 ?l5 ?c5 ?k5 ?a6 ?l6 ?c6 ?k6 ?a7 ?l7 ?c7 ?k7 ?a8 ?l8 ?c8 ?k8 ?a9 ?l9 ?c9 ?k9 ?a10 ?l10 ?c10 ?k10 ?a11 ?l11 ?c11 ?k11 ?a12 ?l12 ?c12 ?k12 ?z0 ?z1 ?z2 ?z3 ?z4 ?z5 ?z6 ?z7 ?z8 ?z9 ?z10 ?z11 ?z12 ?z13 ?z14 ?z15 ?z16 ?z17 ?z18
    (case a0 => k_is)
    (case l0 => k_is)
    (case c0 => k_is)
    (case k0 => k_is)
    (case a1 => k_is)
    (case l1 => k_is)
    (case c1 => k_is)
    (case k1 => k_is)
    (case a2 => k_is)
    (case l2 => k_is)
    (case c2 => k_is)
    (case k2 => k_is)
    (case a3 => k_is)
    (case l3 => k_is)
    (case c3 => k_is)
    (case k3 => k_is)
    (case a4 => k_is)
    (case l4 => k_is)
    (case c4 => k_is)
    (case k4 => k_is)
    (case a5 => k_is)
    (case l5 => k_is)
    (case c5 => k_is)
    (case k5 => k_is)
    (case a6 => k_is)
    (case l6 => k_is)
    (case c6 => k_is)
    (case k6 => k_is)
    (case a7 => k_is)
    (case l7 => k_is)
    (case c7 => k_is)
    (case k7 => k_is)
    (case a8 => k_is)
    (case l8 => k_is)
    (case c8 => k_is)
    (case k8 => k_is)
    (case a9 => k_is)
    (case l9 => k_is)
    (case c9 => k_is)
    (case k9 => k_is)
    (case a10 => k_is)
    (case l10 => k_is)
    (case c10 => k_is)
    (case k10 => k_is)
    (case a11 => k_is)
    (case l11 => k_is)
    (case c11 => k_is)
    (case k11 => k_is)
    (case a12 => k_is)
    (case l12 => k_is)
    (case c12 => k_is)
    (case k12 => k_is)
    (case z0 => k_is)
    (case z1 => k_is)
    (case z2 => k_is)
    (case z3 => k_is)
    (case z4 => k_is)
    (case z5 => k_is)
    (case z6 => k_is)
    (case z7 => k_is)
    (case z8 => k_is)
    (case z9 => k_is)
    (case z10 => k_is)
    (case z11 => k_is)
    (case z12 => k_is)
    (case z13 => k_is)
    (case z14 => k_is)
    (case z15 => k_is)
    (case z16 => k_is)
    (case z17 => k_is)
    (case z18 => k_is)
