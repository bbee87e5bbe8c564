import PyProof.Rows.All
import Wide.All
import OpenK.AllK
import Wide.FinOn
import HandS.ForMost
import HandS.ForExc
import HandS.TupAny
import HandS.Wide
import HandS.Conv
import HandS.Zip
import HandS.SetKeys
import HandS.TupLe
import KE.DataEq
import KE.DataCmp
import KE.DataAny
import KE.DataFind
import KE.SortData
import HandS.TupMul
import KE.DataIsa
import KE.DataMinMax
import KE.KDictPairs
import KE.KDictZip
import PyProof.ListStr
import HandS.Small
import HandS.Exc
import HandS.ExcOwn
import HandS.ExcCtx
import HandS.HotCalls
import HandS.ExcIs
import HandS.TryOnly
import HandS.MapJoin
import HandS.Text
import HandS.StrMore
import HandS.More
import HandS.List
import HandS.Deep
import PySem.Challenge.RW_translit_k12_whole_formats
set_option Elab.async false
set_option linter.all false
set_option maxRecDepth 100000
set_option maxHeartbeats 400000
/-! The data layer: slots hold data, the heap stays behind a curtain. -/
namespace TD
open PySem PySem.Spec PyProof.Rows L2

abbrev D := PyData

/-! ### heaps -/
/-- the heap without M -/
def hid (M : List Addr) (H : Hp) : Hp := fun a => if a ∈ M then none else H a
theorem hid_in {M : List Addr} {H : Hp} {a : Addr} (h : a ∈ M) : hid M H a = none := by unfold hid; rw [if_pos h]
theorem hid_out {M : List Addr} {H : Hp} {a : Addr} (h : a ∉ M) : hid M H a = H a := by unfold hid; rw [if_neg h]
theorem hid_some {M : List Addr} {H : Hp} {a : Addr} {o : HO} (h : hid M H a = some o) : a ∉ M ∧ H a = some o := by
  by_cases q : a ∈ M
  · rw [hid_in q] at h; cases h
  · rw [hid_out q] at h; exact ⟨q, h⟩
theorem hid_le {M : List Addr} {H : Hp} : Same (hid M H) H := fun _ _ h => (hid_some h).2
/-- all but T stands -/
def Gr (T : List Addr) (H H' : Hp) : Prop := ∀ b o, b ∉ T → H b = some o → H' b = some o
theorem Gr.refl (T : List Addr) (H : Hp) : Gr T H H := fun _ _ _ h => h
theorem Gr.trans {T : List Addr} {H H1 H2 : Hp} (a : Gr T H H1) (b : Gr T H1 H2) : Gr T H H2 := fun c o n h => b c o n (a c o n h)
theorem Same.gr {T : List Addr} {H H1 : Hp} (a : Same H H1) : Gr T H H1 := fun b o _ h => a b o h
theorem Gr.same {H H1 : Hp} (a : Gr [] H H1) : Same H H1 := fun b o h => a b o (by simp) h
theorem Gr.mono {T T' : List Addr} {H H1 : Hp} (a : Gr T H H1) (s : ∀ b ∈ T, b ∈ T') : Gr T' H H1 := fun b o n h => a b o (fun z => n (s b z)) h
theorem Gr.hid {T M : List Addr} {H H1 : Hp} (a : Gr T H H1) (s : ∀ b ∈ T, b ∈ M) : Same (hid M H) (hid M H1) := fun b o h => by
  obtain ⟨n, e⟩ := hid_some h
  rw [hid_out n]
  exact a b o (fun z => n (s b z)) e
theorem Same.hid {M : List Addr} {H H1 : Hp} (a : Same H H1) : Same (hid M H) (hid M H1) := Gr.hid (T := []) (Same.gr a) (by simp)
theorem Same.seqT {K : PySem.W.Frag} {H H' : Hp} {a : Addr} {xs : List V} (e : Same H H') (h : SqT K H a xs) : SqT K H' a xs := by
  rcases h with (h | ⟨o, h⟩) | h
  · exact .inl (.inl (e _ _ h))
  · exact .inl (.inr ⟨o, e _ _ h⟩)
  · exact .inr h
/-- what is hidden is there -/
def Live (M : List Addr) (H : Hp) : Prop := ∀ m ∈ M, H m ≠ none
theorem Live.same {M : List Addr} {H H1 : Hp} (l : Live M H) (s : Same H H1) : Live M H1 := fun m hm e => by
  cases q : H m with
  | none => exact l m hm q
  | some o => rw [s m o q] at e; cases e
theorem Live.new {M : List Addr} {H : Hp} {p : Addr} (l : Live M H) (hp : H p = none) : p ∉ M := fun z => l p z hp
theorem same_new {H : Hp} {p : Addr} (h : H p = none) (o : HO) : Same H (upd H p o) := fun b u e => by
  rw [upd_ne (ne_of_none e h)]; exact e
theorem hid_upd_out {M : List Addr} {H : Hp} {p : Addr} {o : HO} (h : p ∉ M) : hid M (upd H p o) = upd (hid M H) p o := by
  funext b
  unfold hid upd
  by_cases q : b = p
  · subst q; rw [if_neg h, if_pos rfl, if_pos rfl]
  · rw [if_neg q, if_neg q]

/-! ### data: tracked lists and tuples alone -/
mutual
inductive Dq (H : Hp) : V → PyData → Prop
  | non : Dq H .non .none
  | bl (b : Bool) : Dq H (.bl b) (.bool b)
  | int (i : Int) : Dq H (.int i) (.int i)
  | str (x : Str) : Dq H (.str x) (.str x)
  | lst {a : Addr} {xs : List V} {ds : List PyData} : H a = some (.lst xs) → DqAll H xs ds → Dq H (.ref a) (.list ds)
  | tup {a : Addr} {o : Obj} {xs : List V} {ds : List PyData} : H a = some (.frz o (.tup xs)) → o.dict = none → DqAll H xs ds → Dq H (.ref a) (.tuple ds)
inductive DqAll (H : Hp) : List V → List PyData → Prop
  | nil : DqAll H [] []
  | cons {v : V} {vs : List V} {d : PyData} {ds : List PyData} : Dq H v d → DqAll H vs ds → DqAll H (v :: vs) (d :: ds)
end
section
variable {K : PySem.W.Frag} {H H' : Hp}
mutual
theorem dq_dp : ∀ (d : D) (v : V), Dq H v d → Dp K H v d
  | .none, _, h => by cases h; exact .non
  | .bool b, _, h => by cases h; exact .bl b
  | .int i, _, h => by cases h; exact .int i
  | .str x, _, h => by cases h; exact .str x
  | .list ds, _, h => by
    cases h with
    | lst h1 h2 => exact .lst (.inl (.inl h1)) (dqAll_dp ds _ h2)
  | .tuple ds, _, h => by
    cases h with
    | tup h1 _ h2 => exact .tup (.inl (.inr ⟨_, h1⟩)) (dqAll_dp ds _ h2)
  | .dict _, _, h => by cases h
theorem dqAll_dp : ∀ (ds : List D) (vs : List V), DqAll H vs ds → DpAll K H vs ds
  | [], _, h => by cases h; exact .nil
  | d :: ds, _, h => by
    cases h with
    | cons h1 h2 => exact .cons (dq_dp d _ h1) (dqAll_dp ds _ h2)
end
mutual
theorem dq_mono (s : Same H H') : ∀ (d : D) (v : V), Dq H v d → Dq H' v d
  | .none, _, h => by cases h; exact .non
  | .bool b, _, h => by cases h; exact .bl b
  | .int i, _, h => by cases h; exact .int i
  | .str x, _, h => by cases h; exact .str x
  | .list ds, _, h => by
    cases h with
    | lst h1 h2 => exact .lst (s _ _ h1) (dqAll_mono s ds _ h2)
  | .tuple ds, _, h => by
    cases h with
    | tup h1 h0 h2 => exact .tup (s _ _ h1) h0 (dqAll_mono s ds _ h2)
  | .dict _, _, h => by cases h
theorem dqAll_mono (s : Same H H') : ∀ (ds : List D) (vs : List V), DqAll H vs ds → DqAll H' vs ds
  | [], _, h => by cases h; exact .nil
  | d :: ds, _, h => by
    cases h with
    | cons h1 h2 => exact .cons (dq_mono s d _ h1) (dqAll_mono s ds _ h2)
end
theorem dqAll_len : ∀ {ds : List D} {vs : List V}, DqAll H vs ds → vs.length = ds.length
  | _, _, .nil => rfl
  | _, _, .cons _ t => by rw [List.length_cons, List.length_cons, dqAll_len t]
theorem dqAll_get : ∀ {ds : List D} {vs : List V} {i : Nat} {v : V}, DqAll H vs ds → vs[i]? = some v → ∃ d, ds[i]? = some d ∧ Dq H v d
  | _, _, _, _, .nil, e => by simp at e
  | _, _, 0, _, .cons h _, e => by
    simp only [List.getElem?_cons_zero, Option.some.injEq] at e
    subst e; exact ⟨_, rfl, h⟩
  | _, _, i + 1, _, .cons _ t, e => by
    rw [List.getElem?_cons_succ] at e
    obtain ⟨d, h1, h2⟩ := dqAll_get t e
    exact ⟨d, by rw [List.getElem?_cons_succ]; exact h1, h2⟩
theorem dqAll_getD : ∀ {ds : List D} {vs : List V} {i : Nat} {d : D}, DqAll H vs ds → ds[i]? = some d → ∃ v, vs[i]? = some v ∧ Dq H v d
  | _, _, _, _, .nil, e => by simp at e
  | _, _, 0, _, .cons h _, e => by
    simp only [List.getElem?_cons_zero, Option.some.injEq] at e
    subst e; exact ⟨_, rfl, h⟩
  | _, _, i + 1, _, .cons _ t, e => by
    rw [List.getElem?_cons_succ] at e
    obtain ⟨d, h1, h2⟩ := dqAll_getD t e
    exact ⟨d, by rw [List.getElem?_cons_succ]; exact h1, h2⟩
theorem dqAll_app : ∀ {ds es : List D} {vs ws : List V}, DqAll H vs ds → DqAll H ws es → DqAll H (vs ++ ws) (ds ++ es)
  | _, _, _, _, .nil, h => h
  | _, _, _, _, .cons h t, h' => .cons h (dqAll_app t h')
theorem dqAll_take : ∀ {ds : List D} {vs : List V} (n : Nat), DqAll H vs ds → DqAll H (vs.take n) (ds.take n)
  | _, _, 0, _ => .nil
  | _, _, _ + 1, .nil => .nil
  | _, _, n + 1, .cons h t => .cons h (dqAll_take n t)
theorem dqAll_drop : ∀ {ds : List D} {vs : List V} (n : Nat), DqAll H vs ds → DqAll H (vs.drop n) (ds.drop n)
  | _, _, 0, h => h
  | _, _, _ + 1, .nil => .nil
  | _, _, n + 1, .cons _ t => dqAll_drop n t
theorem dqAll_rev : ∀ {ds : List D} {vs : List V}, DqAll H vs ds → DqAll H vs.reverse ds.reverse
  | _, _, .nil => .nil
  | _, _, .cons h t => by rw [List.reverse_cons, List.reverse_cons]; exact dqAll_app (dqAll_rev t) (.cons h .nil)
theorem dqAll_dropLast {ds : List D} {vs : List V} (h : DqAll H vs ds) : DqAll H vs.dropLast ds.dropLast := by
  rw [List.dropLast_eq_take, List.dropLast_eq_take, dqAll_len h]; exact dqAll_take _ h
theorem dqAll_ints : ∀ ns : List Int, DqAll H (ns.map V.int) (ns.map PyData.int)
  | [] => .nil
  | n :: ns => .cons (.int n) (dqAll_ints ns)
theorem dqAll_bools : ∀ {bs : List Bool} {vs : List V}, DqAll H vs (bs.map PyData.bool) → vs = bs.map V.bl
  | [], _, h => by cases h; rfl
  | b :: bs, _, h => by
    cases h with
    | cons h1 h2 => cases h1; rw [dqAll_bools h2]; rfl
theorem dqAll_strs : ∀ {bs : List Str} {vs : List V}, DqAll H vs (bs.map PyData.str) → vs = bs.map V.str
  | [], _, h => by cases h; rfl
  | b :: bs, _, h => by
    cases h with
    | cons h1 h2 => cases h1; rw [dqAll_strs h2]; rfl
theorem dq_int {v : V} {i : Int} (h : Dq H v (.int i)) : v = .int i := by cases h; rfl
theorem dq_str {v : V} {x : Str} (h : Dq H v (.str x)) : v = .str x := by cases h; rfl
theorem dq_bool {v : V} {b : Bool} (h : Dq H v (.bool b)) : v = .bl b := by cases h; rfl
theorem dq_none {v : V} (h : Dq H v .none) : v = .non := by cases h; rfl
theorem dq_list {v : V} {ds : List D} (h : Dq H v (.list ds)) : ∃ a xs, v = .ref a ∧ H a = some (.lst xs) ∧ DqAll H xs ds := by
  cases h with
  | lst h1 h2 => exact ⟨_, _, rfl, h1, h2⟩
theorem dq_tuple {v : V} {ds : List D} (h : Dq H v (.tuple ds)) : ∃ a o xs, v = .ref a ∧ H a = some (.frz o (.tup xs)) ∧ o.dict = none ∧ DqAll H xs ds := by
  cases h with
  | tup h1 h0 h2 => exact ⟨_, _, _, rfl, h1, h0, h2⟩
end

/-! ### what a slot holds -/
inductive DV where
  | z
  | d (x : D)
  | v (x : V)
  | k (kvs : List (Key × D))
  | s (ns : List Int)
abbrev KD (H : Hp) : List (Key × V) → List (Key × D) → Prop := Paired fun p q => p.1 = q.1 ∧ Dq H p.2 q.2
theorem KD.mono {H H' : Hp} {a : List (Key × V)} {b : List (Key × D)} (s : Same H H') (h : KD H a b) : KD H' a b := L2.Paired.mapP h fun p q z => ⟨z.1, dq_mono s _ _ z.2⟩
def VOk (K : PySem.W.Frag) (H : Hp) (v : V) : DV → Prop
  | .z => True
  | .d x => Dq H v x
  | .v x => v = x
  | .k kvs => ∃ a kv, v = .ref a ∧ H a = some (.dK kv) ∧ KD H kv kvs
  | .s ns => ∃ a, v = .ref a ∧ SqL K H a (ns.map V.int)
theorem VOk.mono {K : PySem.W.Frag} {H H' : Hp} (s : Same H H') {v : V} : ∀ {x : DV}, VOk K H v x → VOk K H' v x
  | .z, _ => trivial
  | .d _, h => dq_mono s _ _ h
  | .v _, h => h
  | .k _, ⟨a, kv, h1, h2, h3⟩ => ⟨a, kv, h1, s _ _ h2, h3.mono s⟩
  | .s _, ⟨a, h1, h2⟩ => ⟨a, h1, L2.Same.seq s h2⟩
def SOk (K : PySem.W.Frag) (H : Hp) (o : Option V) : DV → Prop
  | .z => True
  | .d x => ∃ v, o = some v ∧ Dq H v x
  | .v x => o = some x
  | .k kvs => ∃ v, o = some v ∧ VOk K H v (.k kvs)
  | .s ns => ∃ v, o = some v ∧ VOk K H v (.s ns)
theorem SOk.of {K : PySem.W.Frag} {H : Hp} {v : V} : ∀ {x : DV}, VOk K H v x → SOk K H (some v) x
  | .z, _ => trivial
  | .d _, h => ⟨v, rfl, h⟩
  | .v _, h => by have e : v = _ := h; rw [e]; exact rfl
  | .k _, h => ⟨v, rfl, h⟩
  | .s _, h => ⟨v, rfl, h⟩
theorem SOk.get {K : PySem.W.Frag} {H : Hp} {o : Option V} : ∀ {x : DV}, x ≠ .z → SOk K H o x → ∃ v, o = some v ∧ VOk K H v x
  | .z, n, _ => absurd rfl n
  | .d _, _, h => h
  | .v x, _, h => ⟨x, h, rfl⟩
  | .k _, _, h => h
  | .s _, _, h => h
theorem SOk.mono {K : PySem.W.Frag} {H H' : Hp} (s : Same H H') {o : Option V} : ∀ {x : DV}, SOk K H o x → SOk K H' o x
  | .z, _ => trivial
  | .d _, ⟨v, e, h⟩ => ⟨v, e, dq_mono s _ _ h⟩
  | .v _, h => h
  | .k _, ⟨v, e, h⟩ => ⟨v, e, VOk.mono s h⟩
  | .s _, ⟨v, e, h⟩ => ⟨v, e, VOk.mono s h⟩
def Env (K : PySem.W.Frag) (H : Hp) : L2.St → List DV → Prop
  | [], [] => True
  | o :: σ, x :: ρ => SOk K H o x ∧ Env K H σ ρ
  | [], _ :: _ => False
  | _ :: _, [] => False
section
variable {K : PySem.W.Frag} {H H' : Hp}
theorem Env.mono (s : Same H H') : ∀ {σ : L2.St} {ρ : List DV}, Env K H σ ρ → Env K H' σ ρ
  | [], [], _ => trivial
  | _ :: _, _ :: _, ⟨a, b⟩ => ⟨a.mono s, Env.mono s b⟩
  | [], _ :: _, h => h.elim
  | _ :: _, [], h => h.elim
theorem Env.get : ∀ {σ : L2.St} {ρ : List DV} {i : Nat} {x : DV}, Env K H σ ρ → ρ[i]? = some x → x ≠ .z → ∃ v, σ[i]? = some (some v) ∧ VOk K H v x
  | [], [], _, _, _, e, _ => by simp at e
  | o :: _, y :: _, 0, x, ⟨a, _⟩, e, n => by
    simp only [List.getElem?_cons_zero, Option.some.injEq] at e
    subst e
    obtain ⟨v, rfl, h⟩ := a.get n
    exact ⟨v, rfl, h⟩
  | _ :: _, _ :: _, i + 1, x, ⟨_, b⟩, e, n => by
    rw [List.getElem?_cons_succ] at e
    obtain ⟨v, h1, h2⟩ := Env.get b e n
    exact ⟨v, by rw [List.getElem?_cons_succ]; exact h1, h2⟩
  | [], _ :: _, _, _, h, _, _ => h.elim
  | _ :: _, [], _, _, h, _, _ => h.elim
theorem Env.set : ∀ {σ : L2.St} {ρ : List DV} (i : Nat) {o : Option V} {x : DV}, Env K H σ ρ → SOk K H o x → Env K H (σ.set i o) (ρ.set i x)
  | [], [], _, _, _, _, _ => trivial
  | _ :: _, _ :: _, 0, _, _, ⟨_, b⟩, h => ⟨h, b⟩
  | _ :: _, _ :: _, i + 1, _, _, ⟨a, b⟩, h => ⟨a, Env.set i b h⟩
  | [], _ :: _, _, _, _, h, _ => h.elim
  | _ :: _, [], _, _, _, h, _ => h.elim
theorem Env.len : ∀ {σ : L2.St} {ρ : List DV}, Env K H σ ρ → σ.length = ρ.length
  | [], [], _ => rfl
  | _ :: _, _ :: _, ⟨_, b⟩ => by rw [List.length_cons, List.length_cons, Env.len b]
  | [], _ :: _, h => h.elim
  | _ :: _, [], h => h.elim
def wipeD (ρ : List DV) : List Nat → List DV
  | [] => ρ
  | v :: vs => (wipeD ρ vs).set v .z
theorem Env.wipe {σ : L2.St} {ρ : List DV} (h : Env K H σ ρ) : ∀ vs : List Nat, Env K H (wipe σ vs) (wipeD ρ vs)
  | [] => h
  | v :: vs => Env.set v (Env.wipe h vs) trivial
def Args (K : PySem.W.Frag) (H : Hp) : List V → List DV → Prop := Paired fun v x => VOk K H v x
theorem Args.mono (s : Same H H') {vs : List V} {xs : List DV} (h : Args K H vs xs) : Args K H' vs xs := L2.Paired.mapP h fun _ _ z => VOk.mono s z
theorem Args.len : ∀ {vs : List V} {xs : List DV}, Args K H vs xs → vs.length = xs.length
  | _, _, .nil => rfl
  | _, _, .cons _ t => by rw [List.length_cons, List.length_cons, Args.len t]
theorem env_rep : ∀ n : Nat, Env K H (List.replicate n none) (List.replicate n .z)
  | 0 => trivial
  | n + 1 => ⟨trivial, env_rep n⟩
theorem env_args : ∀ {vs : List V} {xs : List DV} {σ : L2.St} {ρ : List DV}, Args K H vs xs → Env K H σ ρ → Env K H (vs.map some ++ σ) (xs ++ ρ)
  | _, _, _, _, .nil, h => h
  | _, _, _, _, .cons a t, h => ⟨SOk.of a, env_args t h⟩
/-- the names at a def's entry -/
theorem env_start {N : List Str} {vs : List V} {xs : List DV} (h : Args K H vs xs) : Env K H (L2.start N vs) (xs ++ List.replicate (N.length - xs.length) .z) := by
  unfold L2.start
  rw [Args.len h]
  exact env_args h (env_rep _)
end

/-! ### what evaluates to what -/
/-- what stands: the written part, what is hidden, what may have changed since H -/
structure Cz where
  K : PySem.W.Frag
  M : List Addr
  T : List Addr
  H : Hp
abbrev Cz.hid (c : Cz) (H : Hp) : Hp := TD.hid c.M H
/-- a state in which c's facts hold -/
structure At (c : Cz) (H : Hp) (σ : L2.St) (ρ : List DV) : Prop where
  gr : Gr c.T c.H H
  lv : Live c.M H
  env : Env c.K (c.hid H) σ ρ
theorem At.same {c : Cz} {H H1 : Hp} {σ : L2.St} {ρ : List DV} (a : At c H σ ρ) (s : Same H H1) : At c H1 σ ρ := ⟨a.gr.trans (Same.gr s), a.lv.same s, a.env.mono (Same.hid s)⟩
theorem At.set {c : Cz} {H : Hp} {σ : L2.St} {ρ : List DV} (a : At c H σ ρ) (i : Nat) {v : V} {x : DV} (h : VOk c.K (c.hid H) v x) : At c H (σ.set i (some v)) (ρ.set i x) := ⟨a.gr, a.lv, a.env.set i (SOk.of h)⟩
theorem At.wipe {c : Cz} {H : Hp} {σ : L2.St} {ρ : List DV} (a : At c H σ ρ) (vs : List Nat) : At c H (wipe σ vs) (wipeD ρ vs) := ⟨a.gr, a.lv, a.env.wipe vs⟩
def EvX (c : Cz) (te : TE) (ρ : List DV) (x : DV) : Prop := ∀ H1 σ, At c H1 σ ρ → ∀ Q : VK, (∀ v H2, Same H1 H2 → VOk c.K (c.hid H2) v x → Q v H2) → te σ H1 Q
def EvB (c : Cz) (tt : TT) (ρ : List DV) (b : Bool) : Prop := ∀ H1 σ, At c H1 σ ρ → ∀ Q : Bool → Hp → Prop, (∀ H2, Same H1 H2 → Q b H2) → tt σ H1 Q
def EvA (c : Cz) (ta : TA) (ρ : List DV) (xs : List DV) : Prop := ∀ H1 σ, At c H1 σ ρ → ∀ Q : List V → Hp → Prop, (∀ vs H2, Same H1 H2 → Args c.K (c.hid H2) vs xs → Q vs H2) → ta σ H1 Q
def EvO (c : Cz) (to : TO) (ρ : List DV) (o : Option Int) : Prop := ∀ H1 σ, At c H1 σ ρ → ∀ Q : Option Int → Hp → Prop, (∀ H2, Same H1 H2 → Q o H2) → to σ H1 Q
/-- a two-place operation, a call by values -/
def RX (c : Cz) (r : R2) (x y z : DV) : Prop := ∀ H1, Gr c.T c.H H1 → Live c.M H1 → ∀ u v, VOk c.K (c.hid H1) u x → VOk c.K (c.hid H1) v y → ∀ Q : VK, (∀ w H2, Same H1 H2 → VOk c.K (c.hid H2) w z → Q w H2) → r u v H1 Q
def RCX (c : Cz) (r : List V → Hp → VK → Prop) (xs : List DV) (z : DV) : Prop := ∀ H1, Gr c.T c.H H1 → Live c.M H1 → ∀ vs, Args c.K (c.hid H1) vs xs → ∀ Q : VK, (∀ w H2, Same H1 H2 → VOk c.K (c.hid H2) w z → Q w H2) → r vs H1 Q
def RMX (c : Cz) (r : V → List V → Hp → VK → Prop) (x : DV) (xs : List DV) (z : DV) : Prop := ∀ H1, Gr c.T c.H H1 → Live c.M H1 → ∀ v vs, VOk c.K (c.hid H1) v x → Args c.K (c.hid H1) vs xs → ∀ Q : VK, (∀ w H2, Same H1 H2 → VOk c.K (c.hid H2) w z → Q w H2) → r v vs H1 Q
section
variable {c : Cz} {ρ : List DV} {te ta tb td : TE} {tt tu : TT} {x y z : DV} {i : Nat}
theorem EvX.is (h : EvX c te ρ x) (e : x = y) : EvX c te ρ y := e ▸ h
theorem EvB.is {a b : Bool} (h : EvB c tt ρ a) (e : a = b) : EvB c tt ρ b := e ▸ h
theorem ev_var (h : ρ[i]? = some x) (n : x ≠ .z := by intro h; cases h) : EvX c (tVar i) ρ x := fun H1 σ a Q q => by
  obtain ⟨v, e, o⟩ := a.env.get h n
  exact ⟨v, e, q v H1 (Same.refl H1) o⟩
theorem ev_int {k : Int} : EvX c (tC (.int k)) ρ (.d (.int k)) := fun H1 σ a Q q => q _ H1 (Same.refl H1) (Dq.int k)
theorem ev_str {k : Str} : EvX c (tC (.str k)) ρ (.d (.str k)) := fun H1 σ a Q q => q _ H1 (Same.refl H1) (Dq.str k)
theorem ev_bl {k : Bool} : EvX c (tC (.bl k)) ρ (.d (.bool k)) := fun H1 σ a Q q => q _ H1 (Same.refl H1) (Dq.bl k)
theorem ev_non : EvX c (tC .non) ρ (.d .none) := fun H1 σ a Q q => q _ H1 (Same.refl H1) Dq.non
theorem ev_c {v : V} : EvX c (tC v) ρ (.v v) := fun H1 σ a Q q => q _ H1 (Same.refl H1) rfl
theorem ev_op {r : R2} (ha : EvX c ta ρ x) (hb : EvX c tb ρ y) (hr : RX c r x y z) : EvX c (tOp r ta tb) ρ z := fun H1 σ a Q q =>
  ha H1 σ a _ fun u H2 s2 o2 => hb H2 σ (a.same s2) _ fun v H3 s3 o3 => hr H3 ((a.same s2).same s3).gr ((a.same s2).same s3).lv u v (o2.mono (Same.hid s3)) o3 _ fun w H4 s4 o4 => q w H4 (s2.trans (s3.trans s4)) o4
theorem ea_nil : EvA c tNil ρ [] := fun H1 σ a Q q => q [] H1 (Same.refl H1) .nil
theorem ea_cons {tr : TA} {xs : List DV} (h : EvX c ta ρ x) (hr : EvA c tr ρ xs) : EvA c (tCons ta tr) ρ (x :: xs) := fun H1 σ a Q q =>
  h H1 σ a _ fun v H2 s2 o2 => hr H2 σ (a.same s2) _ fun vs H3 s3 o3 => q (v :: vs) H3 (s2.trans s3) (.cons (o2.mono (Same.hid s3)) o3)
theorem ev_cb {r : List V → Hp → VK → Prop} {tr : TA} {xs : List DV} (ha : EvA c tr ρ xs) (hr : RCX c r xs z) : EvX c (tCB r tr) ρ z := fun H1 σ a Q q =>
  ha H1 σ a _ fun vs H2 s2 o2 => hr H2 (a.same s2).gr (a.same s2).lv vs o2 _ fun w H3 s3 o3 => q w H3 (s2.trans s3) o3
theorem eo_none : EvO c tNoPart ρ none := fun H1 σ a Q q => q H1 (Same.refl H1)
theorem eo_some {k : Int} (h : EvX c te ρ (.d (.int k))) : EvO c (tPart te) ρ (some k) := fun H1 σ a Q q =>
  h H1 σ a _ fun v H2 s2 o2 => ⟨k, dq_int o2, q H2 s2⟩
/-! tests -/
theorem eb_test {b : Bool} (h : EvX c te ρ (.d (.bool b))) : EvB c (tTest te) ρ b := fun H1 σ a Q q =>
  h H1 σ a _ fun v H2 s2 o2 => ⟨b, dq_bool o2, q H2 s2⟩
theorem eb_B {b : Bool} (h : EvX c te ρ (.d (.bool b))) : EvB c (tB te) ρ b := fun H1 σ a Q q =>
  h H1 σ a _ fun v H2 s2 o2 => ⟨b, dq_bool o2, q H2 s2⟩
theorem eb_yes : EvB c tYes ρ true := fun H1 σ a Q q => q H1 (Same.refl H1)
theorem eb_not {b : Bool} (h : EvB c tt ρ b) : EvB c (tNot tt) ρ (!b) := fun H1 σ a Q q => h H1 σ a _ fun H2 s2 => q H2 s2
theorem eb_and {a b : Bool} (h1 : EvB c tt ρ a) (h2 : a = true → EvB c tu ρ b) : EvB c (tAnd tt tu) ρ (a && b) := fun H1 σ e Q q => h1 H1 σ e _ fun H2 s2 => by
  cases a with
  | true => exact iteT (h2 rfl H2 σ (e.same s2) Q fun H3 s3 => q H3 (s2.trans s3))
  | false => exact iteF (q H2 s2)
theorem eb_or {a b : Bool} (h1 : EvB c tt ρ a) (h2 : a = false → EvB c tu ρ b) : EvB c (tOr tt tu) ρ (a || b) := fun H1 σ e Q q => h1 H1 σ e _ fun H2 s2 => by
  cases a with
  | true => exact iteT (q H2 s2)
  | false => exact iteF (h2 rfl H2 σ (e.same s2) Q fun H3 s3 => q H3 (s2.trans s3))
theorem ev_andV {a b : Bool} (h1 : EvX c ta ρ (.d (.bool a))) (h2 : a = true → EvX c tb ρ (.d (.bool b))) : EvX c (tAndV ta tb) ρ (.d (.bool (a && b))) := fun H1 σ e Q q => h1 H1 σ e _ fun v H2 s2 o2 => ⟨a, dq_bool o2, by
  cases a with
  | true => exact iteT (h2 rfl H2 σ (e.same s2) Q fun w H3 s3 o3 => q w H3 (s2.trans s3) o3)
  | false => exact iteF (q _ H2 s2 (Dq.bl false))⟩
theorem ev_orV {a b : Bool} (h1 : EvX c ta ρ (.d (.bool a))) (h2 : a = false → EvX c tb ρ (.d (.bool b))) : EvX c (tOrV ta tb) ρ (.d (.bool (a || b))) := fun H1 σ e Q q => h1 H1 σ e _ fun v H2 s2 o2 => ⟨a, dq_bool o2, by
  cases a with
  | true => exact iteT (q _ H2 s2 (Dq.bl true))
  | false => exact iteF (h2 rfl H2 σ (e.same s2) Q fun w H3 s3 o3 => q w H3 (s2.trans s3) o3)⟩
theorem ev_notV {a : Bool} (h1 : EvX c ta ρ (.d (.bool a))) : EvX c (tNotV ta) ρ (.d (.bool (!a))) := fun H1 σ e Q q => h1 H1 σ e _ fun v H2 s2 o2 => ⟨a, dq_bool o2, q _ H2 s2 (Dq.bl _)⟩
theorem ev_if {b : Bool} (h : EvB c tt ρ b) (h1 : b = true → EvX c ta ρ x) (h2 : b = false → EvX c tb ρ x) : EvX c (tIf tt ta tb) ρ x := fun H1 σ e Q q => h H1 σ e _ fun H2 s2 => by
  cases b with
  | true => exact iteT (h1 rfl H2 σ (e.same s2) Q fun w H3 s3 o3 => q w H3 (s2.trans s3) o3)
  | false => exact iteF (h2 rfl H2 σ (e.same s2) Q fun w H3 s3 o3 => q w H3 (s2.trans s3) o3)
end
end TD
set_option Elab.async false
set_option linter.all false
set_option maxRecDepth 100000
set_option maxHeartbeats 400000
/-! Operators, calls and comprehensions over data. -/
namespace TD
open PySem PySem.Spec PyProof.Rows L2

/-! ### plain data -/
mutual
theorem dq_plain {H : Hp} : ∀ (d : D) (v : V), Dq H v d → d.plain = true
  | .none, _, _ => rfl
  | .bool _, _, _ => rfl
  | .int _, _, _ => rfl
  | .str _, _, _ => rfl
  | .list ds, _, h => by cases h with | lst _ h2 => exact dqAll_plain ds _ h2
  | .tuple ds, _, h => by cases h with | tup _ _ h2 => exact dqAll_plain ds _ h2
  | .dict _, _, h => by cases h
theorem dqAll_plain {H : Hp} : ∀ (ds : List D) (vs : List V), DqAll H vs ds → PyData.plainAll ds = true
  | [], _, _ => rfl
  | d :: ds, _, h => by
    cases h with
    | cons h1 h2 =>
      show (PyData.plain d && PyData.plainAll ds) = true
      rw [dq_plain d _ h1, dqAll_plain ds _ h2]; rfl
end
section
variable {X : Cx} {pins : List (Addr × Obj)} {σ : L2.St} {H : Hp} {s : Shared}
theorem rd_q (I : Inv X pins σ H s) {d : D} {v : V} {u : Value} (h : Dq H v d) (r : RelV v u) : ∃ as, Reads s.heap u d as := Dp.reads I d v u (dq_dp d v h) r
theorem rdAll_q (I : Inv X pins σ H s) {ds : List D} {vs : List V} {us : List Value} (h : DqAll H vs ds) (r : Vals vs us) : ∃ as, ReadsAll s.heap us ds as := Dp.readsAll I ds vs us (dqAll_dp ds vs h) r
end
/-- texts by their signs -/
abbrev sw (l : List Nat) : Str := ⟨l.toArray⟩
abbrev tl (x : Str) : List Nat := x.cps.toList
theorem sw_tl (x : Str) : sw (tl x) = x := by cases x; simp [sw, tl]
theorem tl_sw (l : List Nat) : tl (sw l) = l := by simp [sw, tl]
theorem sw_inj {a b : List Nat} (h : sw a = sw b) : a = b := by have := congrArg tl h; rwa [tl_sw, tl_sw] at this
theorem sw_app (a b : List Nat) : sw a ++ sw b = sw (a ++ b) := TL.ext_tl (by rw [TL.tl_append])
theorem sw_len (l : List Nat) : (sw l).length = l.length := by show l.toArray.size = _; simp
abbrev ds (l : List Nat) : D := .str (sw l)

/-! ### tuples, known to the object -/
section
variable {X : Cx} {pins : List (Addr × Obj)} {σ : L2.St} {H : Hp} {s : Shared} {es : List Expr} {t : TA} {pos : Pos}
/-- a new tuple at p -/
def NewT (xs : List V) (H : Hp) (Q : VK) : Prop := ∀ p o, H p = none → o.dict = none → Q (.ref p) (upd H p (.frz o (.tup xs)))
theorem laid_tup {h' : Heap} {xs : List V} {us : List Value} {tk : Nat} {Q : VK} (I : Inv X pins σ H { s with heap := h' }) (r : Vals xs us) (hz : xs.length ≤ sizeLine) (q : NewT xs H Q) :
    EP X pins σ Q (.ref h'.objs.size) { s with heap := h'.push { cls := .type "tuple", data := .seq us.toArray }, toks := tk } := by
  have e : (h'.push { cls := .type "tuple", data := .seq us.toArray }).get? h'.objs.size = some { cls := .type "tuple", data := .seq us.toArray } := Heap.get?_push_size _ rfl
  refine ⟨.ref h'.objs.size, upd H h'.objs.size (.frz { cls := .type "tuple", data := .seq us.toArray } (.tup xs)), I.laid (t' := tk) (fun b u e => Heap.get?_push_of_some _ e) (Nat.le_refl _) ?_, rfl, q _ _ (I.hok.fresh (Nat.le_refl _)) rfl⟩
  exact ⟨e, hz, us, r, ⟨_, e, rfl, _, rfl⟩⟩
def tTupF (t : TA) : TE := fun σ H Q => t σ H fun xs H1 => xs.length ≤ sizeLine ∧ NewT xs H1 Q
theorem pe_tupF {x1} (h : PA X es t) : PE X (.Tuple es x1 pos) (tTupF t) := by
  refine ⟨fun pins s σ H Q I hq => ?_⟩
  refine wpAny_Tuple_spliced (thn (h.run pos pins s σ H _ I hq) fun us s1 ⟨xs, H1, I1, r, z, q⟩ => ⟨by rw [← r.length]; exact z, ?_⟩)
  exact laid_tup (h' := s1.heap) I1 r z q
def rTupOf (K : PySem.W.Frag) : List V → Hp → VK → Prop := fun xs H Q => ∃ p ys, xs = [.ref p] ∧ ((SqL K H p ys ∧ NewT ys H Q) ∨ (SqT K H p ys ∧ Q (.ref p) H))
theorem call_tupleF : CallR X (.type "tuple") (rTupOf X.K) := by
  intro pins s σ H xs us Q I r h
  obtain ⟨p, ys, rfl, h⟩ := h
  obtain ⟨u, rfl, rx⟩ := vals1 r
  cases rx
  rcases h with ⟨hq, q⟩ | ⟨hq, q⟩
  · obtain ⟨its, r', pl, hz⟩ := I.list hq
    have hlen := r'.length
    refine call_tuple_list pl.isList (fun h' kp => ?_) (by simp only [List.size_toArray] <;> omega)
    exact laid_tup (tk := s.toks) (I.kept (t' := s.toks) kp) r' hz q
  · obtain ⟨its, r', pl, hz⟩ := I.tuple hq
    exact call_tuple_same pl ⟨.ref p, H, I, rfl, q⟩
def rCatF (K : PySem.W.Frag) : R2 := fun x y H Q => ∃ a b xs ys, x = .ref a ∧ y = .ref b ∧ SqT K H a xs ∧ SqT K H b ys ∧ xs.length + ys.length ≤ sizeLine ∧
  (xs = [] → Q (.ref b) H) ∧ (xs ≠ [] → ys = [] → Q (.ref a) H) ∧ (xs ≠ [] → ys ≠ [] → NewT (xs ++ ys) H Q)
theorem op_catF : OpR X (binaryOp .Add) (rCatF X.K) := by
  intro pins s σ H x y v u Q I rx ry h
  obtain ⟨a, b, xs, ys, rfl, rfl, ha, hb, hz, q0, q1, q2⟩ := h
  cases rx
  cases ry
  obtain ⟨its, r1, p1, _⟩ := I.tuple ha
  obtain ⟨its2, r2, p2, _⟩ := I.tuple hb
  by_cases hx : xs = []
  · subst hx
    cases r1
    exact L2.cat_tup0 p1 p2 ⟨.ref b, H, I, rfl, q0 rfl⟩
  · have l1 := r1.length
    have l2 := r2.length
    refine HT.cat_tup p1 p2 (fun e => hx (r1.nil_iff.mp e)) (fun e => ⟨.ref a, H, I, rfl, q1 hx (r2.nil_iff.mp e)⟩) (fun e => ?_) (by omega)
    exact laid_tup (h' := s.heap) (tk := s.toks) I (r1.append r2) (by rw [List.length_append]; exact hz) (q2 hx fun z => e (r2.nil_iff.mpr z))
def rSlF (K : PySem.W.Frag) : V → Option Int → Option Int → Hp → VK → Prop := fun x lo hi H Q => ∃ a xs, x = .ref a ∧ SqT K H a xs ∧
  (HT.sIx xs.length 0 lo = 0 ∧ HT.sIx xs.length xs.length hi = xs.length → Q (.ref a) H) ∧ (¬ (HT.sIx xs.length 0 lo = 0 ∧ HT.sIx xs.length xs.length hi = xs.length) → NewT (cutV xs lo hi) H Q)
theorem sl_tupF : SlR X (rSlF X.K) := by
  intro pins s σ H x v vl vu lo hi sl Q I rx hs pl pu h
  obtain ⟨a, xs, rfl, hx, q1, q2⟩ := h
  cases rx
  obtain ⟨its, r, ht, hz⟩ := I.tuple hx
  have hlen : its.toArray.size = xs.length := by rw [List.size_toArray]; exact r.length.symm
  refine ⟨"tuple", _, PyProof.Rows.slot_tuple_getitem.lookup, ht.typeIs, ?_⟩
  by_cases hw : HT.sIx xs.length 0 lo = 0 ∧ HT.sIx xs.length xs.length hi = xs.length
  · exact L2.getItem_tuple_whole ht hs pl pu (by rw [hlen]; exact hw) ⟨.ref a, H, I, rfl, q1 hw⟩
  · refine HT.getItem_tuple_cut ht hs pl pu (by rw [hlen]; exact hw) ?_ (by omega)
    rw [hlen]
    exact laid_tup (h' := s.heap) (tk := s.toks) I ((r.drop _).take _) (Nat.le_trans (cutV_length xs lo hi) hz) (q2 hw)
end
/-! ### operators by values -/
section
variable {X : Cx}
def rEqQ : R2 := fun x y H Q => ∃ d e, Dq H x d ∧ Dq H y e ∧ min d.depth e.depth ≤ 60 ∧ Q (.bl (PyData.eqv d e)) H
def rNeQ : R2 := fun x y H Q => ∃ d e, Dq H x d ∧ Dq H y e ∧ min d.depth e.depth ≤ 60 ∧ Q (.bl (!PyData.eqv d e)) H
theorem op_eqQ (hu : X.A.units + 64 < cLine) : OpR X (compareOp .Eq) rEqQ := by
  intro pins s σ H x y v u Q I rx ry h
  obtain ⟨d, e, hd, he, hb, q⟩ := h
  obtain ⟨as, r1⟩ := rd_q I hd rx
  obtain ⟨bs, r2⟩ := rd_q I he ry
  exact SeqAt.eq_plain r1 r2 (dq_plain _ _ hd) (dq_plain _ _ he) (by omega) ⟨.bl _, H, I, rfl, q⟩
theorem op_neQ (hu : X.A.units + 64 < cLine) : OpR X (compareOp .NotEq) rNeQ := by
  intro pins s σ H x y v u Q I rx ry h
  obtain ⟨d, e, hd, he, hb, q⟩ := h
  obtain ⟨as, r1⟩ := rd_q I hd rx
  obtain ⟨bs, r2⟩ := rd_q I he ry
  exact SeqAt.ne_plain r1 r2 (dq_plain _ _ hd) (dq_plain _ _ he) (by omega) ⟨.bl _, H, I, rfl, q⟩
/-- a < b, .. of alike data (texts, tuples, ..) -/
def rCmpQ (f : D → D → Bool) : R2 := fun x y H Q => ∃ d e, Dq H x d ∧ Dq H y e ∧ PySem.W.alike d e = true ∧ d ≠ .none ∧ min d.depth e.depth ≤ 60 ∧ Q (.bl (f d e)) H
theorem op_ltQ (hu : X.A.units + 64 < cLine) : OpR X (compareOp .Lt) (rCmpQ PySem.W.dataLt) := by
  intro pins s σ H x y v u Q I rx ry h
  obtain ⟨d, e, hd, he, ha, hn, hb, q⟩ := h
  obtain ⟨as, r1⟩ := rd_q I hd rx
  obtain ⟨bs, r2⟩ := rd_q I he ry
  exact PySem.W.lt_data r1 r2 ha hn (by omega) ⟨.bl _, H, I, rfl, q⟩
theorem op_gtQ (hu : X.A.units + 64 < cLine) : OpR X (compareOp .Gt) (rCmpQ fun d e => PySem.W.dataLt e d) := by
  intro pins s σ H x y v u Q I rx ry h
  obtain ⟨d, e, hd, he, ha, hn, hb, q⟩ := h
  obtain ⟨as, r1⟩ := rd_q I hd rx
  obtain ⟨bs, r2⟩ := rd_q I he ry
  exact PySem.W.gt_data r1 r2 ha hn (by omega) ⟨.bl _, H, I, rfl, q⟩
def rLtU : R2 := fun x y H Q => rI0 (fun i j => .bl (decide (i < j))) x y H Q ∨ rCmpQ PySem.W.dataLt x y H Q
theorem op_ltU (hu : X.A.units + 64 < cLine) : OpR X (compareOp .Lt) rLtU := OpR.or op_lt (op_ltQ hu)
def rGtU : R2 := fun x y H Q => rI0 (fun i j => .bl (decide (j < i))) x y H Q ∨ rCmpQ (fun d e => PySem.W.dataLt e d) x y H Q
theorem op_gtU (hu : X.A.units + 64 < cLine) : OpR X (compareOp .Gt) rGtU := OpR.or op_gt (op_gtQ hu)
/-- + -/
def rAddU (K : PySem.W.Frag) : R2 := fun x y H Q => rI0 (fun i j => .int (i + j)) x y H Q ∨ (∃ i j, x = .str i ∧ y = .str j ∧ i.length + j.length ≤ sizeLine ∧ Q (.str (i ++ j)) H) ∨ rCatF K x y H Q ∨ rCat x y H Q
theorem op_addU : OpR X (binaryOp .Add) (rAddU X.K) := OpR.or op_add (OpR.or op_add_str (OpR.or op_catF op_cat))
/-- * -/
def rMulS : R2 := fun x y H Q => ∃ (z : Str) (n : Int), x = .str z ∧ y = .int n ∧ 0 ≤ n ∧ n ≤ 1000 ∧ z.length ≤ 1000 ∧ Q (.str (Txt.mul z n)) H
theorem op_mulS : OpR X (binaryOp .Mult) rMulS := by
  intro pins s σ H x y v u Q I rx ry h
  obtain ⟨z, n, rfl, rfl, h0, h1, h2, q⟩ := h
  obtain ⟨t, rfl⟩ := rx
  obtain ⟨t', rfl⟩ := ry
  refine PySem.SB.mul (x := z) (n := n) ⟨?_, ?_, ?_⟩ fun t'' k => ⟨.str _, H, I.tok k, ⟨_, rfl⟩, q⟩
  · have a : ¬ n < -(2 ^ 63 : Int) := by omega
    have b : ¬ n ≥ 2 ^ 63 := by omega
    rw [decide_eq_false a, decide_eq_false b]; rfl
  · intro h3 _
    have : (1000 : Int) ≤ (2 ^ 63 - 1) / n := by
      rw [Int.le_ediv_iff_mul_le (by omega)]
      have : (1000 : Int) * n ≤ 1000 * 1000 := Int.mul_le_mul_of_nonneg_left h1 (by decide)
      omega
    omega
  · intro h3 _
    have hh : z.length * n.toNat ≤ 1000 * 1000 := Nat.mul_le_mul h2 (by omega)
    have : z.length * n.toNat ≤ sizeLine := Nat.le_trans hh (by decide)
    unfold PySem.Builtin.Str.tooLong
    rw [decide_eq_false]; omega
def rMulU : R2 := fun x y H Q => rI CMul (fun i j => .int (i * j)) x y H Q ∨ rI CMulW (fun i j => .int (i * j)) x y H Q ∨ rMulS x y H Q ∨ rRep x y H Q
theorem op_mulU : OpR X (binaryOp .Mult) rMulU := OpR.or op_mul (OpR.or op_mulW (OpR.or op_mulS op_rep))
/-- // -/
def rDivU : R2 := fun x y H Q => rI CDiv (fun i j => .int (i / j)) x y H Q ∨ rI CDivW (fun i j => .int (i / j)) x y H Q
theorem op_divU : OpR X (binaryOp .FloorDiv) rDivU := OpR.or op_fdiv op_fdivW
/-- in -/
def rInU (g : Bool → Bool) : R2 := fun x y H Q => (∃ (c : Nat) (z : Str), x = .str ⟨#[c]⟩ ∧ y = .str z ∧ Q (.bl (g (decide (c ∈ z.cps.toList)))) H) ∨
  (∃ d ds, Dq H x d ∧ (Dq H y (.list ds) ∨ Dq H y (.tuple ds)) ∧ min (PyData.depthAll ds) d.depth ≤ 60 ∧ Q (.bl (g (ds.any fun z => PyData.eqv z d))) H) ∨
  (∃ a o, y = .ref a ∧ DGet H a x o ∧ Q (.bl (g o.isSome)) H)
theorem op_inU (hu : X.A.units + 64 < cLine) : OpR X (compareOp .In) (rInU id) := by
  intro pins s σ H x y v u Q I rx ry h
  rcases h with h | ⟨d, e, hd, he, hb, q⟩ | ⟨a, o, rfl, g, q⟩
  · exact op_in_sign pins s σ H x y v u Q I rx ry h
  · obtain ⟨as, r1⟩ := rd_q I hd rx
    rcases he with he | he
    · obtain ⟨bs, r2⟩ := rd_q I he ry
      exact SeqAt.in_list_data r2 r1 (dq_plain (.list e) _ he) (dq_plain _ _ hd) (by omega) ⟨.bl _, H, I, rfl, q⟩
    · obtain ⟨bs, r2⟩ := rd_q I he ry
      exact SeqAt.in_tuple_data r2 r1 (dq_plain (.tuple e) _ he) (dq_plain _ _ hd) (by omega) ⟨.bl _, H, I, rfl, q⟩
  · cases ry
    exact d_in (by omega) I g rx fun s' I' => ⟨.bl _, H, I', rfl, q⟩
theorem op_notInU (hu : X.A.units + 64 < cLine) : OpR X (compareOp .NotIn) (rInU Bool.not) := by
  intro pins s σ H x y v u Q I rx ry h
  rcases h with h | ⟨d, e, hd, he, hb, q⟩ | ⟨a, o, rfl, g, q⟩
  · exact op_notIn_sign pins s σ H x y v u Q I rx ry h
  · obtain ⟨as, r1⟩ := rd_q I hd rx
    rcases he with he | he
    · obtain ⟨bs, r2⟩ := rd_q I he ry
      exact SeqAt.notIn_list_data r2 r1 (dq_plain (.list e) _ he) (dq_plain _ _ hd) (by omega) ⟨.bl _, H, I, rfl, q⟩
    · obtain ⟨bs, r2⟩ := rd_q I he ry
      exact SeqAt.notIn_tuple_data r2 r1 (dq_plain (.tuple e) _ he) (dq_plain _ _ hd) (by omega) ⟨.bl _, H, I, rfl, q⟩
  · cases ry
    exact d_notIn (by omega) I g rx fun s' I' => ⟨.bl _, H, I', rfl, q⟩
/-- is True, is False, is None and their contraries -/
def rIsU (g : Bool → Bool) : R2 := fun x y H Q => (y = .non ∧ Q (.bl (g (decide (x = .non)))) H) ∨ (∃ a b, x = .bl a ∧ y = .bl b ∧ Q (.bl (g (decide (a = b)))) H)
theorem op_isU : OpR X (compareOp .Is) (rIsU id) := OpR.or op_isN op_is_bl
theorem op_isNotU : OpR X (compareOp .IsNot) (rIsU Bool.not) := OpR.or op_notN op_isnot_bl

/-! ### subscripts, slices -/
def tSub (K : PySem.W.Frag) (ta tb : TE) : TE := fun σ H Q => tOp (rIx K) ta tb σ H Q ∨ tDGet ta tb σ H Q
theorem pe_sub {a b : Expr} {ta tb : TE} {pos : Pos} (hu : X.A.units + 64 < cLine) (ha : PE X a ta) (hb : PE X b tb) (hs : PlainIx b) : PE X (.Subscript a b pos) (tSub X.K ta tb) := by
  refine ⟨fun pins s σ H Q I h => ?_⟩
  rcases h with h | h
  · exact (pe_ix ix_seq ha hb hs).run pins s σ H Q I h
  · exact (pe_dget (by omega) ha hb hs).run pins s σ H Q I h
def rSlU (K : PySem.W.Frag) : V → Option Int → Option Int → Hp → VK → Prop := fun x lo hi H Q => rSlL K x lo hi H Q ∨ rSlS x lo hi H Q ∨ rSlF K x lo hi H Q
theorem sl_U : SlR X (rSlU X.K) := SlR.or sl_list (SlR.or sl_str sl_tupF)

/-! ### built-ins -/
def rIsaQ : List V → Hp → VK → Prop := fun xs H Q => ∃ x d, Dq H x d ∧ ((xs = [x, .ty "str"] ∧ Q (.bl d.isStr) H) ∨ (xs = [x, .ty "tuple"] ∧ Q (.bl d.isTuple) H) ∨ (xs = [x, .ty "list"] ∧ Q (.bl d.isList) H))
theorem call_isaQ : CallR X (.builtin "isinstance") rIsaQ := by
  intro pins s σ H xs us Q I r h
  obtain ⟨x, d, hd, h⟩ := h
  rcases h with ⟨rfl, q⟩ | ⟨rfl, q⟩ | ⟨rfl, q⟩
  · obtain ⟨u, w, rfl, r1, r2⟩ := vals2 r
    obtain rfl : w = Value.type "str" := r2
    obtain ⟨as, r1⟩ := rd_q I hd r1
    exact PySem.W.isinstance_str_data r1 fun tk _ => ⟨.bl _, H, I.tok tk, rfl, q⟩
  · obtain ⟨u, w, rfl, r1, r2⟩ := vals2 r
    obtain rfl : w = Value.type "tuple" := r2
    obtain ⟨as, r1⟩ := rd_q I hd r1
    exact PySem.W.isinstance_tuple_data r1 fun tk _ => ⟨.bl _, H, I.tok tk, rfl, q⟩
  · obtain ⟨u, w, rfl, r1, r2⟩ := vals2 r
    obtain rfl : w = Value.type "list" := r2
    obtain ⟨as, r1⟩ := rd_q I hd r1
    exact PySem.W.isinstance_list_data r1 fun tk _ => ⟨.bl _, H, I.tok tk, rfl, q⟩
/-- len -/
def rLenU (K : PySem.W.Frag) : List V → Hp → VK → Prop := fun xs H Q => (∃ x n, xs = [x] ∧ LenV K x H n ∧ Q (.int n) H) ∨ ∃ a kvs, xs = [.ref a] ∧ H a = some (.dK kvs) ∧ Q (.int kvs.length) H
theorem call_lenU : CallR X (.builtin "len") (rLenU X.K) := by
  intro pins s σ H xs us Q I r h
  rcases h with h | ⟨a, kvs, rfl, e, q⟩
  · exact call_len pins s σ H xs us Q I r h
  · obtain ⟨u, rfl, r1⟩ := vals1 r
    cases r1
    exact d_len I (Rd.of e) fun t s' I' => ⟨.int _, H, I', ⟨t, rfl⟩, q⟩
/-- dict(t) of a tuple, a list of pairs -/
theorem refs_back : ∀ {ps : List Addr} {us : List Value}, Vals (ps.map V.ref) us → us = ps.map Value.ref
  | [], _, .nil => rfl
  | p :: ps, _, .cons r t => by
    obtain rfl : _ = Value.ref p := r
    rw [refs_back t]; rfl
/-- what dict() takes: a list of pairs, a tuple of pairs -/
def PairsV (K : PySem.W.Frag) (H : Hp) : List V → List (Key × V) → Prop := Paired fun v kv => ∃ p, v = .ref p ∧ SqT K H p [kV kv.1, kv.2]
def rDictP (K : PySem.W.Frag) : List V → Hp → VK → Prop := fun xs H Q => ∃ (a : Addr) (vs : List V) (kvs : List (Key × V)), xs = [.ref a] ∧ (SqL K H a vs ∨ ∃ o, H a = some (.frz o (.tup vs)) ∧ o.dict = none) ∧ PairsV K H vs kvs ∧ ∀ p, H p = none → Q (.ref p) (upd H p (.dK (mergeK [] kvs)))
theorem pairs_raw {pins : List (Addr × Obj)} {σ : L2.St} {H : Hp} {s : Shared} (I : Inv X pins σ H s) : ∀ {vs : List V} {kvs : List (Key × V)}, PairsV X.K H vs kvs →
    ∃ (ps : List Addr) (prs : List (Key × Value)) (raw : List (Value × Value)), vs = ps.map V.ref ∧ KV kvs prs ∧ ps.length = prs.length ∧ raw.length = prs.length ∧ Paired (fun (p : Addr) (kv : Key × V) => SqT X.K H p [kV kv.1, kv.2]) ps kvs ∧
      ∀ (j : Nat) (u v : Value), raw[j]? = some (u, v) → ∃ (p : Addr) (k : Key), ps[j]? = some p ∧ prs[j]? = some (k, v) ∧ keyIs k u = true ∧ s.heap.IsTuple p #[u, v]
  | _, _, .nil => ⟨[], [], [], rfl, .nil, rfl, rfl, .nil, fun j k v e => by simp at e⟩
  | _ :: _, (k, v) :: kvs, .cons ⟨p, e, h⟩ t => by
    obtain ⟨ps, prs, raw, h0, h1, h2, hr, hp, h3⟩ := pairs_raw I t
    obtain ⟨its, rv, it, _⟩ := I.tuple h
    obtain ⟨u, w, rfl, ru, rw'⟩ := vals2 rv
    refine ⟨p :: ps, (k, w) :: prs, (u, w) :: raw, by rw [e, h0]; rfl, .cons ⟨rfl, rw'⟩ h1, by rw [List.length_cons, List.length_cons, h2], by rw [List.length_cons, List.length_cons, hr], .cons h hp, fun j k' v' e => ?_⟩
    cases j with
    | zero =>
      simp only [List.getElem?_cons_zero, Option.some.injEq, Prod.mk.injEq] at e
      obtain ⟨rfl, rfl⟩ := e
      exact ⟨p, k, rfl, rfl, kV_is (P := X.prog) (w := X.w) ru, it⟩
    | succ j =>
      rw [List.getElem?_cons_succ] at e
      obtain ⟨p', u', e1, e2, e3⟩ := h3 j k' v' e
      exact ⟨p', u', by rw [List.getElem?_cons_succ]; exact e1, by rw [List.getElem?_cons_succ]; exact e2, e3⟩
theorem call_dictPT (hc : X.calm = true) : CallR X (.type "dict") (rDictP X.K) := by
  intro pins s σ H xs us Q I r h
  obtain ⟨a, vs, kvs, rfl, hq, hp, q⟩ := h
  obtain ⟨ps, prs, raw, rfl, rel, hl, hrl, hpp, hpr⟩ := pairs_raw I hp
  rcases hq with hq | ⟨o, ho, hod⟩
  · exact call_dictP hc pins s σ H _ us Q I r ⟨a, ps, kvs, rfl, hq, hpp, q⟩
  · obtain ⟨u, rfl, rx⟩ := vals1 r
    cases rx
    obtain ⟨eo, hz, its, rv, ob, eob, hcl, n, hdat⟩ := I.hok a _ ho
    have e1 : ob = o := Option.some.inj (eob.symm.trans eo)
    subst e1
    have ei := refs_back rv
    subst ei
    rw [List.length_map] at hz
    have hget : ∀ (j : Nat) (u v : Value), raw[j]? = some (u, v) → ps[j]? = some (ps.getD j 0) ∧ s.heap.IsTuple (ps.getD j 0) #[u, v] := fun j u v e => by
      obtain ⟨p, k, e1, e2, e3, e4⟩ := hpr j u v e
      have : ps.getD j 0 = p := by rw [List.getD_eq_getElem?_getD, e1]; rfl
      rw [this]; exact ⟨e1, e4⟩
    refine PySem.call_dict_pairs (knd := mixKind X.prog X.w) (kvs := prs) (PairArg.tuple a (ps.map Value.ref).toArray (fun j => ps.getD j 0) raw) (I.ok.hd hc) ⟨⟨ob, n, eo, hcl, hod, hdat⟩, by rw [List.size_toArray, List.length_map, hl, hrl], fun j k v e => ⟨by
        have q1 := (hget j k v e).1
        rw [List.getElem?_toArray, List.getElem?_map, q1]; rfl, .inl (hget j k v e).2⟩⟩ ⟨hrl.symm, fun i key v e => ?_⟩ (by omega) fun h' tk hd' k => ?_
    · obtain ⟨p, k, e1, e2, e3, e4⟩ := hpr i key v e
      exact ⟨k, e2, e3⟩
    · have hm : (s.heap.objs.size == sysModules) = false := beq_eq_false_iff_ne.mpr (Nat.ne_of_gt I.big)
      have hlen : (mergeK [] kvs).length ≤ sizeLine := by
        refine Nat.le_trans (length_mergeK kvs []) ?_
        rw [List.length_nil, Nat.zero_add, rel.length, ← hl]
        exact hz
      exact ⟨.ref s.heap.objs.size, upd H s.heap.objs.size (.dK (mergeK [] kvs)), I.laid (t' := tk) (fun b o e => k b o (by simp) e) (Nat.le_refl _) (show ObjOk X.prog X.w _ _ _ (.dK (mergeK [] kvs)) from ⟨hlen, hm, merged [] prs, KV.merge rel .nil, hd'⟩), rfl, q _ (I.hok.fresh (Nat.le_refl _))⟩
end
end TD
set_option Elab.async false
set_option linter.all false
set_option maxRecDepth 100000
set_option maxHeartbeats 400000
/-! What operators and calls give, over data. -/
namespace TD
open PySem PySem.Spec PyProof.Rows L2

section
variable {c : Cz} {H : Hp}
/-- a new list, a new tuple is data -/
theorem new_lst {M : List Addr} {H : Hp} {p : Addr} {vs : List V} {xs : List D} (lv : Live M H) (hp : H p = none) (h : DqAll (hid M H) vs xs) : Dq (hid M (upd H p (.lst vs))) (.ref p) (.list xs) :=
  .lst (by rw [hid_upd_out (lv.new hp)]; exact upd_same) (dqAll_mono (Same.hid (same_new hp _)) _ _ h)
theorem new_tup {M : List Addr} {H : Hp} {p : Addr} {o : Obj} {vs : List V} {xs : List D} (lv : Live M H) (hp : H p = none) (ho : o.dict = none) (h : DqAll (hid M H) vs xs) : Dq (hid M (upd H p (.frz o (.tup vs)))) (.ref p) (.tuple xs) :=
  .tup (by rw [hid_upd_out (lv.new hp)]; exact upd_same) ho (dqAll_mono (Same.hid (same_new hp _)) _ _ h)
theorem sqL_of {K : PySem.W.Frag} {M : List Addr} {H : Hp} {a : Addr} {xs : List V} (h : hid M H a = some (.lst xs)) : SqL K H a xs := .inl (.inl (hid_some h).2)
theorem sqT_of {K : PySem.W.Frag} {M : List Addr} {H : Hp} {a : Addr} {o : Obj} {xs : List V} (h : hid M H a = some (.frz o (.tup xs))) : SqT K H a xs := .inl (.inr ⟨o, (hid_some h).2⟩)
mutual
theorem dq_up {M : List Addr} {H : Hp} : ∀ (d : D) (v : V), Dq (hid M H) v d → Dq H v d
  | d, v, h => dq_mono hid_le d v h
end
theorem newT_q {xs : List V} {ds' : List D} {M : List Addr} {H : Hp} {Q : VK} (lv : Live M H) (h : DqAll (hid M H) xs ds') (q : ∀ w H2, Same H H2 → Dq (hid M H2) w (.tuple ds') → Q w H2) : NewT xs H Q :=
  fun p o hp ho => q _ _ (same_new hp _) (new_tup lv hp ho h)

/-! ### + - * // % ** -/
variable {K : PySem.W.Frag}
theorem rx_I0 {g : Int → Int → Int} {i j : Int} : RX c (rI0 fun i j => .int (g i j)) (.d (.int i)) (.d (.int j)) (.d (.int (g i j))) := fun H1 _ _ u v hu hv Q q => ⟨i, j, dq_int hu, dq_int hv, q _ H1 (Same.refl _) (Dq.int _)⟩
theorem rx_B0 {g : Int → Int → Bool} {i j : Int} : RX c (rI0 fun i j => .bl (g i j)) (.d (.int i)) (.d (.int j)) (.d (.bool (g i j))) := fun H1 _ _ u v hu hv Q q => ⟨i, j, dq_int hu, dq_int hv, q _ H1 (Same.refl _) (Dq.bl _)⟩
theorem rx_I {C : Int → Int → Prop} {g : Int → Int → Int} {i j : Int} (h : C i j) : RX c (rI C fun i j => .int (g i j)) (.d (.int i)) (.d (.int j)) (.d (.int (g i j))) := fun H1 _ _ u v hu hv Q q => ⟨i, j, dq_int hu, dq_int hv, h, q _ H1 (Same.refl _) (Dq.int _)⟩
theorem rx_addI {i j : Int} : RX c (rAddU K) (.d (.int i)) (.d (.int j)) (.d (.int (i + j))) := fun H1 g l u v hu hv Q q => .inl (rx_I0 (c := c) (g := fun i j => i + j) H1 g l u v hu hv Q q)
theorem rx_addS {a b : List Nat} (h : a.length + b.length ≤ 1000000) : RX c (rAddU K) (.d (ds a)) (.d (ds b)) (.d (ds (a ++ b))) := fun H1 g l u v hu hv Q q =>
  .inr (.inl ⟨sw a, sw b, dq_str hu, dq_str hv, by rw [sw_len, sw_len]; exact Nat.le_trans h (by decide), by rw [sw_app]; exact q _ H1 (Same.refl _) (Dq.str _)⟩)
theorem rx_addT {xs ys : List D} (h : xs.length + ys.length ≤ 1000000) : RX c (rAddU c.K) (.d (.tuple xs)) (.d (.tuple ys)) (.d (.tuple (xs ++ ys))) := fun H1 g l u v hu hv Q q => by
  obtain ⟨a, oa, vs, rfl, ha, ha0, hva⟩ := dq_tuple hu
  obtain ⟨b, ob, ws, rfl, hb, hb0, hvb⟩ := dq_tuple hv
  refine .inr (.inr (.inl ⟨a, b, vs, ws, rfl, rfl, sqT_of ha, sqT_of hb, by rw [dqAll_len hva, dqAll_len hvb]; exact Nat.le_trans h (by decide), fun e => ?_, fun _ e => ?_, fun _ _ => ?_⟩))
  · subst e; cases hva; exact q _ H1 (Same.refl _) hv
  · subst e; cases hvb; rw [List.append_nil] at q; exact q _ H1 (Same.refl _) hu
  · exact newT_q l (dqAll_app hva hvb) q
theorem rx_addL {xs ys : List D} (h : xs.length + ys.length ≤ 1000000) : RX c (rAddU c.K) (.d (.list xs)) (.d (.list ys)) (.d (.list (xs ++ ys))) := fun H1 g l u v hu hv Q q => by
  obtain ⟨a, vs, rfl, ha, hva⟩ := dq_list hu
  obtain ⟨b, ws, rfl, hb, hvb⟩ := dq_list hv
  exact .inr (.inr (.inr ⟨a, b, vs, ws, rfl, rfl, (hid_some ha).2, (hid_some hb).2, by rw [dqAll_len hva, dqAll_len hvb]; exact Nat.le_trans h (by decide), fun p hp => q _ _ (same_new hp _) (new_lst l hp (dqAll_app hva hvb))⟩))
theorem rx_mulI {i j : Int} (h : CMul i j) : RX c rMulU (.d (.int i)) (.d (.int j)) (.d (.int (i * j))) := fun H1 g l u v hu hv Q q => .inl (rx_I (c := c) (g := fun i j => i * j) h H1 g l u v hu hv Q q)
theorem rx_mulW {i j : Int} (h : CMulW i j) : RX c rMulU (.d (.int i)) (.d (.int j)) (.d (.int (i * j))) := fun H1 g l u v hu hv Q q => .inr (.inl (rx_I (c := c) (g := fun i j => i * j) h H1 g l u v hu hv Q q))
/-- s * n -/
theorem foldl_cat (z : Array Nat) : ∀ (n : Nat) (a : Array Nat), ((List.replicate n z).foldl (· ++ ·) a).toList = a.toList ++ (List.replicate n z.toList).flatten
  | 0, a => by simp
  | n + 1, a => by
    rw [List.replicate_succ, List.foldl_cons, foldl_cat z n, List.replicate_succ, List.flatten_cons, Array.toList_append, List.append_assoc]
theorem mul_sw (a : List Nat) (n : Nat) : Txt.mul (sw a) (n : Int) = sw (List.replicate n a).flatten := by
  apply TL.ext_tl
  show tl _ = tl _
  rw [tl_sw]
  unfold Txt.mul
  split
  · rename_i h
    have : n = 0 := by omega
    subst this; rfl
  · split
    · rename_i h1 h2
      rcases Bool.or_eq_true _ _ |>.mp h2 with h | h
      · have : n = 1 := by have := eq_of_beq h; omega
        subst this; simp
      · have : a = [] := by
          have h := eq_of_beq h
          rw [sw_len] at h
          exact List.eq_nil_of_length_eq_zero h
        subst this; simp
    · show ((List.replicate (n : Int).toNat (sw a).cps).foldl (· ++ ·) #[]).toList = _
      rw [foldl_cat]
      simp
theorem rx_mulS {a : List Nat} {n : Nat} (h : n ≤ 1000) (h2 : a.length ≤ 1000) : RX c rMulU (.d (ds a)) (.d (.int n)) (.d (ds (List.replicate n a).flatten)) := fun H1 g l u v hu hv Q q =>
  .inr (.inr (.inl ⟨sw a, n, dq_str hu, dq_int hv, by omega, by omega, by rw [sw_len]; exact h2, by rw [mul_sw]; exact q _ H1 (Same.refl _) (Dq.str _)⟩))
theorem dqAll_rep {H : Hp} {vs : List V} {xs : List D} (h : DqAll H vs xs) : ∀ n : Nat, DqAll H (List.replicate n vs).flatten (List.replicate n xs).flatten
  | 0 => .nil
  | n + 1 => by rw [List.replicate_succ, List.replicate_succ, List.flatten_cons, List.flatten_cons]; exact dqAll_app h (dqAll_rep h n)
theorem rx_mulL {xs : List D} {n : Nat} (h : n ≤ 1000) (h2 : xs.length ≤ 1000) : RX c rMulU (.d (.list xs)) (.d (.int n)) (.d (.list (List.replicate n xs).flatten)) := fun H1 g l u v hu hv Q q => by
  obtain ⟨a, vs, rfl, ha, hva⟩ := dq_list hu
  exact .inr (.inr (.inr ⟨a, n, vs, rfl, dq_int hv, (hid_some ha).2, by omega, by omega, by
    rw [dqAll_len hva]
    have : xs.length * (n : Int).toNat ≤ 1000 * 1000 := Nat.mul_le_mul h2 (by omega)
    exact Nat.le_trans this (by decide), fun p hp => q _ _ (same_new hp _) (new_lst l hp (by have := dqAll_rep hva n; simpa using this))⟩))
theorem rx_divI {i j : Int} (h : CDiv i j) : RX c rDivU (.d (.int i)) (.d (.int j)) (.d (.int (i / j))) := fun H1 g l u v hu hv Q q => .inl (rx_I (c := c) (g := fun i j => i / j) h H1 g l u v hu hv Q q)
/-! ### comparisons -/
theorem rx_eq {d e : D} (h : min d.depth e.depth ≤ 60) : RX c rEqQ (.d d) (.d e) (.d (.bool (PyData.eqv d e))) := fun H1 _ _ u v hu hv Q q => ⟨d, e, dq_up _ _ hu, dq_up _ _ hv, h, q _ H1 (Same.refl _) (Dq.bl _)⟩
theorem rx_ne {d e : D} (h : min d.depth e.depth ≤ 60) : RX c rNeQ (.d d) (.d e) (.d (.bool (!PyData.eqv d e))) := fun H1 _ _ u v hu hv Q q => ⟨d, e, dq_up _ _ hu, dq_up _ _ hv, h, q _ H1 (Same.refl _) (Dq.bl _)⟩
theorem rx_ltI {i j : Int} : RX c rLtU (.d (.int i)) (.d (.int j)) (.d (.bool (decide (i < j)))) := fun H1 g l u v hu hv Q q => .inl (rx_B0 (c := c) (g := fun i j => decide (i < j)) H1 g l u v hu hv Q q)
theorem rx_gtI {i j : Int} : RX c rGtU (.d (.int i)) (.d (.int j)) (.d (.bool (decide (j < i)))) := fun H1 g l u v hu hv Q q => .inl (rx_B0 (c := c) (g := fun i j => decide (j < i)) H1 g l u v hu hv Q q)
theorem rx_ltS {a b : List Nat} : RX c rLtU (.d (ds a)) (.d (ds b)) (.d (.bool (decide (a < b)))) := fun H1 g l u v hu hv Q q =>
  .inr ⟨ds a, ds b, dq_up _ _ hu, dq_up _ _ hv, rfl, (by intro h; cases h), by show min 0 0 ≤ 60; decide, by
    have e : PySem.W.dataLt (ds a) (ds b) = decide (a < b) := by rw [PySem.W.dataLt_str]
    rw [e]; exact q _ H1 (Same.refl _) (Dq.bl _)⟩
theorem rx_gtT {d e : D} (ha : PySem.W.alike d e = true) (hn : d ≠ .none) (h : min d.depth e.depth ≤ 60) : RX c rGtU (.d d) (.d e) (.d (.bool (PySem.W.dataLt e d))) := fun H1 g l u v hu hv Q q =>
  .inr ⟨d, e, dq_up _ _ hu, dq_up _ _ hv, ha, hn, h, q _ H1 (Same.refl _) (Dq.bl _)⟩
/-! ### in -/
def kget (kvs : List (Key × D)) (k : Key) : Option D := (kvs.find? fun kv => decide (kv.1 = k)).map (·.2)
theorem kd_get {H : Hp} {kv : List (Key × V)} {kvs : List (Key × D)} (h : KD H kv kvs) (k : Key) : (∃ v d, valV kv k = some v ∧ kget kvs k = some d ∧ Dq H v d) ∨ (valV kv k = none ∧ kget kvs k = none) := by
  induction h with
  | nil => exact .inr ⟨rfl, rfl⟩
  | @cons p q r s hh t ih =>
    obtain ⟨h1, h2⟩ := hh
    by_cases e : p.1 = k
    · refine .inl ⟨p.2, q.2, valV_pos e, ?_, h2⟩
      unfold kget
      rw [List.find?_cons_of_pos (by simp [← h1, e])]; rfl
    · have e' : ¬ q.1 = k := by rw [← h1]; exact e
      have w1 : valV (p :: r) k = valV r k := valV_neg e
      have w2 : kget (q :: s) k = kget s k := by
        unfold kget
        rw [List.find?_cons_of_neg (by simp [e'])]
      rw [w1, w2]; exact ih
theorem rx_inStr {g : Bool → Bool} {a : Nat} {l : List Nat} : RX c (rInU g) (.d (ds [a])) (.d (ds l)) (.d (.bool (g (decide (a ∈ l))))) := fun H1 _ _ u v hu hv Q q =>
  .inl ⟨a, sw l, dq_str hu, dq_str hv, by
    have e : (sw l).cps.toList = l := tl_sw l
    rw [e]; exact q _ H1 (Same.refl _) (Dq.bl _)⟩
theorem rx_inList {g : Bool → Bool} {d : D} {xs : List D} (h : min (PyData.depthAll xs) d.depth ≤ 60) : RX c (rInU g) (.d d) (.d (.list xs)) (.d (.bool (g (xs.any fun z => PyData.eqv z d)))) := fun H1 _ _ u v hu hv Q q =>
  .inr (.inl ⟨d, xs, dq_up _ _ hu, .inl (dq_up _ _ hv), h, q _ H1 (Same.refl _) (Dq.bl _)⟩)
theorem rx_inTup {g : Bool → Bool} {d : D} {xs : List D} (h : min (PyData.depthAll xs) d.depth ≤ 60) : RX c (rInU g) (.d d) (.d (.tuple xs)) (.d (.bool (g (xs.any fun z => PyData.eqv z d)))) := fun H1 _ _ u v hu hv Q q =>
  .inr (.inl ⟨d, xs, dq_up _ _ hu, .inr (dq_up _ _ hv), h, q _ H1 (Same.refl _) (Dq.bl _)⟩)
theorem rx_inDict {g : Bool → Bool} {x : Str} {kvs : List (Key × D)} : RX c (rInU g) (.d (.str x)) (.k kvs) (.d (.bool (g (kget kvs (.inr x)).isSome))) := fun H1 _ _ u v hu hv Q q => by
  obtain ⟨a, kv, rfl, ha, hk⟩ := hv
  obtain rfl := dq_str hu
  refine .inr (.inr ⟨a, valV kv (.inr x), rfl, DGet.k (k := Sum.inr x) (hid_some ha).2, ?_⟩)
  have e : (valV kv (.inr x)).isSome = (kget kvs (.inr x)).isSome := by
    rcases kd_get hk (.inr x) with ⟨v, d, e1, e2, _⟩ | ⟨e1, e2⟩ <;> rw [e1, e2] <;> rfl
  rw [e]; exact q _ H1 (Same.refl _) (Dq.bl _)
def isNon : D → Bool
  | .none => true
  | _ => false
theorem rx_isNon {g : Bool → Bool} {d : D} : RX c (rIsU g) (.d d) (.d .none) (.d (.bool (g (isNon d)))) := fun H1 _ _ u v hu hv Q q => by
  refine .inl ⟨dq_none hv, ?_⟩
  have hu' : Dq (c.hid H1) u d := hu
  have e : decide (u = V.non) = isNon d := by cases hu' <;> rfl
  rw [e]; exact q _ H1 (Same.refl _) (Dq.bl _)
theorem rx_isBl {g : Bool → Bool} {a b : Bool} : RX c (rIsU g) (.d (.bool a)) (.d (.bool b)) (.d (.bool (g (decide (a = b))))) := fun H1 _ _ u v hu hv Q q =>
  .inr ⟨a, b, dq_bool hu, dq_bool hv, q _ H1 (Same.refl _) (Dq.bl _)⟩

/-! ### subscripts and slices -/
theorem dqAll_atI {H : Hp} {vs : List V} {xs : List D} {i : Int} {d : D} (h : DqAll H vs xs) (e : atI xs i = some d) : ∃ v, atI vs i = some v ∧ Dq H v d := by
  unfold atI at *
  rw [dqAll_len h]
  cases q : ixN xs.length i with
  | none => rw [q] at e; cases e
  | some j =>
    rw [q] at e
    exact dqAll_getD h e
theorem ev_subL {ta tb : TE} {ρ : List DV} {xs : List D} {i : Int} {y : D} (ha : EvX c ta ρ (.d (.list xs))) (hb : EvX c tb ρ (.d (.int i))) (e : atI xs i = some y) : EvX c (tSub K ta tb) ρ (.d y) := fun H1 σ a Q q =>
  .inl (ha H1 σ a _ fun u H2 s2 o2 => hb H2 σ (a.same s2) _ fun v H3 s3 o3 => by
    obtain ⟨p, vs, rfl, hp, hv⟩ := dq_list o2
    obtain ⟨w, e1, e2⟩ := dqAll_atI hv e
    have s3' := Same.hid (M := c.M) s3
    exact .inl ⟨p, vs, i, w, rfl, dq_int o3, sqL_of (s3' _ _ hp), e1, q w H3 (s2.trans s3) (dq_mono s3' _ _ e2)⟩)
theorem ev_subT {ta tb : TE} {ρ : List DV} {xs : List D} {i : Int} {y : D} (ha : EvX c ta ρ (.d (.tuple xs))) (hb : EvX c tb ρ (.d (.int i))) (e : atI xs i = some y) : EvX c (tSub K ta tb) ρ (.d y) := fun H1 σ a Q q =>
  .inl (ha H1 σ a _ fun u H2 s2 o2 => hb H2 σ (a.same s2) _ fun v H3 s3 o3 => by
    obtain ⟨p, o, vs, rfl, hp, _, hv⟩ := dq_tuple o2
    obtain ⟨w, e1, e2⟩ := dqAll_atI hv e
    have s3' := Same.hid (M := c.M) s3
    exact .inr (.inl ⟨p, vs, i, w, rfl, dq_int o3, sqT_of (s3' _ _ hp), e1, q w H3 (s2.trans s3) (dq_mono s3' _ _ e2)⟩))
theorem ev_subSc {ta tb : TE} {ρ : List DV} {ns : List Int} {i : Int} {n : Int} (ha : EvX c ta ρ (.s ns)) (hb : EvX c tb ρ (.d (.int i))) (e : atI ns i = some n) : EvX c (tSub c.K ta tb) ρ (.d (.int n)) := fun H1 σ a Q q =>
  .inl (ha H1 σ a _ fun u H2 s2 o2 => hb H2 σ (a.same s2) _ fun v H3 s3 o3 => by
    obtain ⟨p, rfl, hp⟩ := o2
    have e1 : atI (ns.map V.int) i = some (.int n) := by
      unfold atI at *
      rw [List.length_map]
      cases h : ixN ns.length i with
      | none => rw [h] at e; cases e
      | some j =>
        rw [h] at e
        have e' : ns[j]? = some n := e
        show (ns.map V.int)[j]? = _
        rw [List.getElem?_map, e']; rfl
    exact .inl ⟨p, _, i, _, rfl, dq_int o3, L2.Same.seq (s3.trans (Same.refl _)) (L2.Same.seq hid_le hp), e1, q _ H3 (s2.trans s3) (Dq.int n)⟩)
theorem ev_subS {ta tb : TE} {ρ : List DV} {l : List Nat} {i : Int} {n : Nat} (ha : EvX c ta ρ (.d (ds l))) (hb : EvX c tb ρ (.d (.int i))) (e : atI l i = some n) (hz : l.length ≤ 1000000) : EvX c (tSub K ta tb) ρ (.d (ds [n])) := fun H1 σ a Q q =>
  .inl (ha H1 σ a _ fun u H2 s2 o2 => hb H2 σ (a.same s2) _ fun v H3 s3 o3 =>
    .inr (.inr ⟨sw l, i, n, dq_str o2, dq_int o3, by rw [sw_len]; exact Nat.le_trans hz (by decide), by
      have e2 : (sw l).cps.toList = l := tl_sw l
      rw [e2]; exact e, q _ H3 (s2.trans s3) (Dq.str _)⟩))
theorem ev_subD {ta tb : TE} {ρ : List DV} {kvs : List (Key × D)} {x : Str} {y : D} (ha : EvX c ta ρ (.k kvs)) (hb : EvX c tb ρ (.d (.str x))) (e : kget kvs (.inr x) = some y) : EvX c (tSub K ta tb) ρ (.d y) := fun H1 σ a Q q =>
  .inr (ha H1 σ a _ fun u H2 s2 o2 => hb H2 σ (a.same s2) _ fun v H3 s3 o3 => by
    obtain ⟨p, kv, rfl, hp, hk⟩ := o2
    obtain rfl := dq_str o3
    have s3' := Same.hid (M := c.M) s3
    rcases kd_get hk (.inr x) with ⟨v, d, e1, e2, e3⟩ | ⟨e1, e2⟩
    · rw [e] at e2
      cases e2
      exact ⟨p, v, rfl, by
        have g := DGet.k (k := Sum.inr x) (hid_some (s3' _ _ hp)).2
        rw [e1] at g; exact g, q v H3 (s2.trans s3) (dq_mono s3' _ _ e3)⟩
    · rw [e] at e2; cases e2)
theorem ev_subDi {ta tb : TE} {ρ : List DV} {kvs : List (Key × D)} {x : Int} {y : D} (ha : EvX c ta ρ (.k kvs)) (hb : EvX c tb ρ (.d (.int x))) (e : kget kvs (.inl x) = some y) : EvX c (tSub K ta tb) ρ (.d y) := fun H1 σ a Q q =>
  .inr (ha H1 σ a _ fun u H2 s2 o2 => hb H2 σ (a.same s2) _ fun v H3 s3 o3 => by
    obtain ⟨p, kv, rfl, hp, hk⟩ := o2
    obtain rfl := dq_int o3
    have s3' := Same.hid (M := c.M) s3
    rcases kd_get hk (.inl x) with ⟨v, d, e1, e2, e3⟩ | ⟨e1, e2⟩
    · rw [e] at e2
      cases e2
      exact ⟨p, v, rfl, by
        have g := DGet.k (k := Sum.inl x) (hid_some (s3' _ _ hp)).2
        rw [e1] at g; exact g, q v H3 (s2.trans s3) (dq_mono s3' _ _ e3)⟩
    · rw [e] at e2; cases e2)
/-- xs[lo:hi] -/
def cutL {α : Type} (xs : List α) (lo hi : Option Int) : List α := (xs.drop (HT.sIx xs.length 0 lo)).take (HT.sIx xs.length xs.length hi - HT.sIx xs.length 0 lo)
theorem dqAll_cut {H : Hp} {vs : List V} {xs : List D} (h : DqAll H vs xs) (lo hi : Option Int) : DqAll H (cutV vs lo hi) (cutL xs lo hi) := by
  unfold cutV cutL
  rw [dqAll_len h]
  exact dqAll_take _ (dqAll_drop _ h)
theorem ev_slS {te : TE} {tl' th : TO} {ρ : List DV} {l : List Nat} {lo hi : Option Int} (h : EvX c te ρ (.d (ds l))) (h1 : EvO c tl' ρ lo) (h2 : EvO c th ρ hi) (hz : l.length ≤ 1000000) : EvX c (tSl (rSlU K) te tl' th) ρ (.d (ds (cutL l lo hi))) := fun H1 σ a Q q =>
  h H1 σ a _ fun v H2 s2 o2 => h1 H2 σ (a.same s2) _ fun H3 s3 => h2 H3 σ ((a.same s2).same s3) _ fun H4 s4 =>
    .inr (.inl ⟨sw l, dq_str o2, by rw [sw_len]; exact Nat.le_trans hz (by decide), by
      have e : cutS (sw l) lo hi = sw (cutL l lo hi) := by
        unfold cutS cutL
        rw [sw_len]
      rw [e]; exact q _ H4 (s2.trans (s3.trans s4)) (Dq.str _)⟩)
theorem ev_slL {te : TE} {tl' th : TO} {ρ : List DV} {xs : List D} {lo hi : Option Int} (h : EvX c te ρ (.d (.list xs))) (h1 : EvO c tl' ρ lo) (h2 : EvO c th ρ hi) : EvX c (tSl (rSlU K) te tl' th) ρ (.d (.list (cutL xs lo hi))) := fun H1 σ a Q q =>
  h H1 σ a _ fun v H2 s2 o2 => h1 H2 σ (a.same s2) _ fun H3 s3 => h2 H3 σ ((a.same s2).same s3) _ fun H4 s4 => by
    obtain ⟨p, vs, rfl, hp, hv⟩ := dq_list o2
    have s' := Same.hid (M := c.M) (s3.trans s4)
    exact .inl ⟨p, vs, rfl, sqL_of (s' _ _ hp), fun r hr => q _ _ (s2.trans ((s3.trans s4).trans (same_new hr _))) (new_lst (((a.same s2).same s3).same s4).lv hr (dqAll_cut (dqAll_mono s' _ _ hv) lo hi))⟩
theorem cut_whole {α : Type} {xs : List α} {lo hi : Option Int} (h : HT.sIx xs.length 0 lo = 0 ∧ HT.sIx xs.length xs.length hi = xs.length) : cutL xs lo hi = xs := by
  unfold cutL
  rw [h.1, h.2]; simp
theorem ev_slT {te : TE} {tl' th : TO} {ρ : List DV} {xs : List D} {lo hi : Option Int} (h : EvX c te ρ (.d (.tuple xs))) (h1 : EvO c tl' ρ lo) (h2 : EvO c th ρ hi) : EvX c (tSl (rSlU K) te tl' th) ρ (.d (.tuple (cutL xs lo hi))) := fun H1 σ a Q q =>
  h H1 σ a _ fun v H2 s2 o2 => h1 H2 σ (a.same s2) _ fun H3 s3 => h2 H3 σ ((a.same s2).same s3) _ fun H4 s4 => by
    obtain ⟨p, o, vs, rfl, hp, ho, hv⟩ := dq_tuple o2
    have s' := Same.hid (M := c.M) (s3.trans s4)
    refine .inr (.inr ⟨p, vs, rfl, sqT_of (s' _ _ hp), fun e => ?_, fun _ => newT_q (((a.same s2).same s3).same s4).lv (dqAll_cut (dqAll_mono s' _ _ hv) lo hi) fun w H5 s5 o5 => q w H5 (s2.trans ((s3.trans s4).trans s5)) o5⟩)
    rw [dqAll_len hv] at e
    rw [cut_whole e] at q
    exact q _ H4 (s2.trans (s3.trans s4)) (dq_mono s' _ _ o2)

/-! ### displays -/
theorem args_dq {H : Hp} {vs : List V} {xs : List D} (h : Args K H vs (xs.map DV.d)) : DqAll H vs xs := by
  induction xs generalizing vs with
  | nil => cases h; exact .nil
  | cons x xs ih => cases h with | cons h1 h2 => exact .cons h1 (ih h2)
theorem ev_tup {ta : TA} {ρ : List DV} {xs : List D} (h : EvA c ta ρ (xs.map DV.d)) (hz : xs.length ≤ 1000 := by decide) : EvX c (tTupF ta) ρ (.d (.tuple xs)) := fun H1 σ a Q q =>
  h H1 σ a _ fun vs H2 s2 o2 => by
    have hd := args_dq o2
    exact ⟨by rw [dqAll_len hd]; exact Nat.le_trans hz (by decide), newT_q (a.same s2).lv hd fun w H3 s3 o3 => q w H3 (s2.trans s3) o3⟩
theorem ev_lst {ta : TA} {ρ : List DV} {xs : List D} (h : EvA c ta ρ (xs.map DV.d)) (hz : xs.length ≤ 1000 := by decide) : EvX c (tLst ta) ρ (.d (.list xs)) := fun H1 σ a Q q =>
  h H1 σ a _ fun vs H2 s2 o2 => by
    have hd := args_dq o2
    exact ⟨by rw [dqAll_len hd]; exact Nat.le_trans hz (by decide), fun p hp => q _ _ (s2.trans (same_new hp _)) (new_lst (a.same s2).lv hp hd)⟩
end
end TD
set_option Elab.async false
set_option linter.all false
set_option maxRecDepth 100000
set_option maxHeartbeats 400000
/-! Calls, iterators, comprehensions, loops, over data. -/
namespace TD
open PySem PySem.Spec PyProof.Rows L2
section
variable {c : Cz} {K : PySem.W.Frag} {ρ : List DV}
/-! ### built-ins -/
theorem args1 {H : Hp} {vs : List V} {x : DV} (h : Args K H vs [x]) : ∃ v, vs = [v] ∧ VOk K H v x := by
  cases h with | cons a t => cases t; exact ⟨_, rfl, a⟩
theorem args2 {H : Hp} {vs : List V} {x y : DV} (h : Args K H vs [x, y]) : ∃ v w, vs = [v, w] ∧ VOk K H v x ∧ VOk K H w y := by
  cases h with | cons a t => cases t with | cons b t => cases t; exact ⟨_, _, rfl, a, b⟩
theorem rc_lenS {l : List Nat} (h : l.length ≤ 1000000) : RCX c (rLenU K) [.d (ds l)] (.d (.int l.length)) := fun H1 _ _ vs ha Q q => by
  obtain ⟨v, rfl, o⟩ := args1 ha
  obtain rfl := dq_str o
  exact .inl ⟨_, l.length, rfl, ⟨by rw [sw_len]; exact Nat.le_trans h (by decide), (sw_len l).symm⟩, q _ H1 (Same.refl _) (Dq.int _)⟩
theorem rc_lenL {xs : List D} : RCX c (rLenU K) [.d (.list xs)] (.d (.int xs.length)) := fun H1 _ _ vs ha Q q => by
  obtain ⟨v, rfl, o⟩ := args1 ha
  obtain ⟨a, ws, rfl, h1, h2⟩ := dq_list o
  exact .inl ⟨_, xs.length, rfl, .inl ⟨ws, sqL_of h1, (dqAll_len h2).symm⟩, q _ H1 (Same.refl _) (Dq.int _)⟩
theorem rc_lenT {xs : List D} : RCX c (rLenU K) [.d (.tuple xs)] (.d (.int xs.length)) := fun H1 _ _ vs ha Q q => by
  obtain ⟨v, rfl, o⟩ := args1 ha
  obtain ⟨a, ob, ws, rfl, h1, _, h2⟩ := dq_tuple o
  exact .inl ⟨_, xs.length, rfl, .inr ⟨ws, sqT_of h1, (dqAll_len h2).symm⟩, q _ H1 (Same.refl _) (Dq.int _)⟩
theorem rc_lenSc {ns : List Int} : RCX c (rLenU c.K) [.s ns] (.d (.int ns.length)) := fun H1 _ _ vs ha Q q => by
  obtain ⟨v, rfl, o⟩ := args1 ha
  obtain ⟨a, rfl, h1⟩ := o
  exact .inl ⟨_, ns.length, rfl, .inl ⟨_, L2.Same.seq hid_le h1, by rw [List.length_map]⟩, q _ H1 (Same.refl _) (Dq.int _)⟩
theorem rc_lenD {kvs : List (Key × D)} : RCX c (rLenU K) [.k kvs] (.d (.int kvs.length)) := fun H1 _ _ vs ha Q q => by
  obtain ⟨v, rfl, o⟩ := args1 ha
  obtain ⟨a, kv, rfl, h1, h2⟩ := o
  exact .inr ⟨a, kv, rfl, (hid_some h1).2, by rw [Paired.length h2]; exact q _ H1 (Same.refl _) (Dq.int _)⟩
theorem rc_isaS {x : D} : RCX c rIsaQ [.d x, .v (.ty "str")] (.d (.bool x.isStr)) := fun H1 _ _ vs ha Q q => by
  obtain ⟨v, w, rfl, o, rfl⟩ := args2 ha
  exact ⟨v, x, dq_up _ _ o, .inl ⟨rfl, q _ H1 (Same.refl _) (Dq.bl _)⟩⟩
theorem rc_isaT {x : D} : RCX c rIsaQ [.d x, .v (.ty "tuple")] (.d (.bool x.isTuple)) := fun H1 _ _ vs ha Q q => by
  obtain ⟨v, w, rfl, o, rfl⟩ := args2 ha
  exact ⟨v, x, dq_up _ _ o, .inr (.inl ⟨rfl, q _ H1 (Same.refl _) (Dq.bl _)⟩)⟩
theorem rc_isaL {x : D} : RCX c rIsaQ [.d x, .v (.ty "list")] (.d (.bool x.isList)) := fun H1 _ _ vs ha Q q => by
  obtain ⟨v, w, rfl, o, rfl⟩ := args2 ha
  exact ⟨v, x, dq_up _ _ o, .inr (.inr ⟨rfl, q _ H1 (Same.refl _) (Dq.bl _)⟩)⟩
theorem map_bools {α : Type} (g : α → Bool) (xs : List α) : (xs.map fun x => PyData.bool (g x)) = (xs.map g).map PyData.bool := by rw [List.map_map]; rfl
theorem rc_all {α : Type} {xs : List α} {g : α → Bool} : RCX c (rAll K) [.d (.list (xs.map fun x => .bool (g x)))] (.d (.bool (xs.all g))) := fun H1 _ _ vs ha Q q => by
  obtain ⟨v, rfl, o⟩ := args1 ha
  obtain ⟨a, ws, rfl, h1, h2⟩ := dq_list o
  rw [map_bools] at h2
  obtain rfl := dqAll_bools h2
  refine ⟨a, xs.map g, rfl, sqL_of h1, ?_⟩
  have e : (xs.map g).all id = xs.all g := by rw [List.all_map]; rfl
  rw [e]; exact q _ H1 (Same.refl _) (Dq.bl _)
theorem rc_any {α : Type} {xs : List α} {g : α → Bool} : RCX c (rAny K) [.d (.list (xs.map fun x => .bool (g x)))] (.d (.bool (xs.any g))) := fun H1 _ _ vs ha Q q => by
  obtain ⟨v, rfl, o⟩ := args1 ha
  obtain ⟨a, ws, rfl, h1, h2⟩ := dq_list o
  rw [map_bools] at h2
  obtain rfl := dqAll_bools h2
  refine ⟨a, xs.map g, rfl, sqL_of h1, ?_⟩
  have e : (xs.map g).any id = xs.any g := by rw [List.any_map]; rfl
  rw [e]; exact q _ H1 (Same.refl _) (Dq.bl _)
theorem rc_tupL {xs : List D} : RCX c (rTupOf K) [.d (.list xs)] (.d (.tuple xs)) := fun H1 _ l vs ha Q q => by
  obtain ⟨v, rfl, o⟩ := args1 ha
  obtain ⟨a, ws, rfl, h1, h2⟩ := dq_list o
  exact ⟨a, ws, rfl, .inl ⟨sqL_of h1, newT_q l h2 q⟩⟩
theorem rc_tupT {xs : List D} : RCX c (rTupOf K) [.d (.tuple xs)] (.d (.tuple xs)) := fun H1 _ l vs ha Q q => by
  obtain ⟨v, rfl, o⟩ := args1 ha
  obtain ⟨a, ob, ws, rfl, h1, h0, h2⟩ := dq_tuple o
  exact ⟨a, ws, rfl, .inr ⟨sqT_of h1, q _ H1 (Same.refl _) o⟩⟩
def rListOf (K : PySem.W.Frag) : List V → Hp → VK → Prop := fun xs H Q => ∃ p ys, xs = [.ref p] ∧ (SqL K H p ys ∨ SqT K H p ys) ∧ ∀ l, H l = none → Q (.ref l) (upd H l (.lst ys))
theorem rc_lstL {xs : List D} : RCX c (rListOf K) [.d (.list xs)] (.d (.list xs)) := fun H1 _ l vs ha Q q => by
  obtain ⟨v, rfl, o⟩ := args1 ha
  obtain ⟨a, ws, rfl, h1, h2⟩ := dq_list o
  exact ⟨a, ws, rfl, .inl (sqL_of h1), fun p hp => q _ _ (same_new hp _) (new_lst l hp h2)⟩
theorem rc_lstT {xs : List D} : RCX c (rListOf K) [.d (.tuple xs)] (.d (.list xs)) := fun H1 _ l vs ha Q q => by
  obtain ⟨v, rfl, o⟩ := args1 ha
  obtain ⟨a, ob, ws, rfl, h1, h0, h2⟩ := dq_tuple o
  exact ⟨a, ws, rfl, .inr (sqT_of h1), fun p hp => q _ _ (same_new hp _) (new_lst l hp h2)⟩
theorem rc_min2 {i j : Int} : RCX c (fun xs H Q => ∃ i j, xs = [V.int i, V.int j] ∧ Q (.int (if j < i then j else i)) H) [.d (.int i), .d (.int j)] (.d (.int (if j < i then j else i))) := fun H1 _ l vs ha Q q => by
  obtain ⟨v, w, rfl, o, p⟩ := args2 ha
  obtain rfl := dq_int o
  obtain rfl := dq_int p
  exact ⟨i, j, rfl, q _ H1 (Same.refl _) (Dq.int _)⟩
/-- dict of pairs -/
def pairD (p : Key × D) : D := .tuple [match p.1 with | .inl i => .int i | .inr x => .str x, p.2]
def kput (kvs : List (Key × D)) (k : Key) (v : D) : List (Key × D) :=
  if (kvs.any fun kv => decide (kv.1 = k)) = true then kvs.map (fun kv => if kv.1 = k then (kv.1, v) else kv) else kvs ++ [(k, v)]
def kmerge (kvs more : List (Key × D)) : List (Key × D) := more.foldl (fun acc kv => kput acc kv.1 kv.2) kvs
theorem kd_any {H : Hp} {kv : List (Key × V)} {kvs : List (Key × D)} (h : KD H kv kvs) (k : Key) : (kv.any fun kv => decide (kv.1 = k)) = kvs.any fun kv => decide (kv.1 = k) := by
  induction h with
  | nil => rfl
  | @cons p q r s hh t ih => rw [List.any_cons, List.any_cons, ih, hh.1]
theorem kd_app {H : Hp} {a b : List (Key × V)} {a' b' : List (Key × D)} (h : KD H a a') (h' : KD H b b') : KD H (a ++ b) (a' ++ b') := by
  induction h with
  | nil => exact h'
  | cons hh t ih => exact .cons hh ih
theorem kd_rep {H : Hp} {a : List (Key × V)} {a' : List (Key × D)} (h : KD H a a') (k : Key) {v : V} {d : D} (hv : Dq H v d) : KD H (a.map fun kv => if kv.1 = k then (kv.1, v) else kv) (a'.map fun kv => if kv.1 = k then (kv.1, d) else kv) := by
  induction h with
  | nil => exact .nil
  | @cons p q r s hh t ih =>
    refine .cons ?_ ih
    obtain ⟨p1, p2⟩ := p
    obtain ⟨q1, q2⟩ := q
    obtain ⟨h1, h2⟩ := hh
    obtain rfl : p1 = q1 := h1
    show (if p1 = k then (p1, v) else (p1, p2)).1 = (if p1 = k then (p1, d) else (p1, q2)).1 ∧ Dq H (if p1 = k then (p1, v) else (p1, p2)).2 (if p1 = k then (p1, d) else (p1, q2)).2
    by_cases e : p1 = k
    · rw [if_pos e, if_pos e]; exact ⟨rfl, hv⟩
    · rw [if_neg e, if_neg e]; exact ⟨rfl, h2⟩
theorem kd_put {H : Hp} {a : List (Key × V)} {a' : List (Key × D)} (h : KD H a a') (k : Key) {v : V} {d : D} (hv : Dq H v d) : KD H (putK a k v) (kput a' k d) := by
  unfold putK kput
  rw [kd_any h k]
  split
  · exact kd_rep h k hv
  · exact kd_app h (.cons ⟨rfl, hv⟩ .nil)
theorem kd_merge {H : Hp} {m : List (Key × V)} {m' : List (Key × D)} (h : KD H m m') : ∀ {a : List (Key × V)} {a' : List (Key × D)}, KD H a a' → KD H (mergeK a m) (kmerge a' m') := by
  induction h with
  | nil => exact fun h => h
  | @cons p q r s hh t ih =>
    intro a a' ha
    show KD H (mergeK (putK a p.1 p.2) r) (kmerge (kput a' q.1 q.2) s)
    rw [hh.1]
    exact ih (kd_put ha _ hh.2)
theorem pairs_q {M : List Addr} {H : Hp} : ∀ {kvs : List (Key × D)} {vs : List V}, DqAll (hid M H) vs (kvs.map pairD) → ∃ kv, PairsV K H vs kv ∧ KD (hid M H) kv kvs
  | [], _, h => by cases h; exact ⟨[], .nil, .nil⟩
  | (k, d) :: kvs, _, h => by
    cases h with
    | cons h1 h2 =>
      obtain ⟨kv, p1, p2⟩ := pairs_q h2
      obtain ⟨a, o, ws, rfl, ha, ho, hw⟩ := dq_tuple h1
      cases hw with
      | cons w1 w2 =>
        cases w2 with
        | cons w2 w3 =>
          cases w3
          rename_i u w
          have ek : u = kV k := by
            cases k with
            | inl i => exact dq_int w1
            | inr x => exact dq_str w1
          subst ek
          exact ⟨(k, w) :: kv, .cons ⟨a, rfl, sqT_of ha⟩ p1, .cons ⟨rfl, w2⟩ p2⟩
theorem rc_dictL {kvs : List (Key × D)} : RCX c (rDictP K) [.d (.list (kvs.map pairD))] (.k (kmerge [] kvs)) := fun H1 _ l vs ha Q q => by
  obtain ⟨v, rfl, o⟩ := args1 ha
  obtain ⟨a, ws, rfl, h1, h2⟩ := dq_list o
  obtain ⟨kv, p1, p2⟩ := pairs_q (K := K) h2
  refine ⟨a, ws, kv, rfl, .inl (sqL_of h1), p1, fun p hp => q _ _ (same_new hp _) ?_⟩
  exact ⟨p, _, rfl, by show hid c.M (upd H1 p _) p = _; rw [hid_upd_out (l.new hp)]; exact upd_same, (kd_merge p2 .nil).mono (Same.hid (same_new hp _))⟩
theorem rc_dictT {kvs : List (Key × D)} : RCX c (rDictP K) [.d (.tuple (kvs.map pairD))] (.k (kmerge [] kvs)) := fun H1 _ l vs ha Q q => by
  obtain ⟨v, rfl, o⟩ := args1 ha
  obtain ⟨a, ob, ws, rfl, h1, h0, h2⟩ := dq_tuple o
  obtain ⟨kv, p1, p2⟩ := pairs_q (K := K) h2
  refine ⟨a, ws, kv, rfl, .inr ⟨ob, (hid_some h1).2, h0⟩, p1, fun p hp => q _ _ (same_new hp _) ?_⟩
  exact ⟨p, _, rfl, by show hid c.M (upd H1 p _) p = _; rw [hid_upd_out (l.new hp)]; exact upd_same, (kd_merge p2 .nil).mono (Same.hid (same_new hp _))⟩

/-! ### methods of texts -/
def rStartsW : V → List V → Hp → VK → Prop := fun x xs H Q => ∃ a b, x = .str a ∧ xs = [.str b] ∧ Q (.bl (Txt.startswith a b)) H
theorem ev_m1 {r : V → List V → Hp → VK → Prop} {to te : TE} {x : Str} {y z : DV} (ho : EvX c to ρ (.d (.str x))) (he : EvX c te ρ y) (hr : RMX c r (.d (.str x)) [y] z) : EvX c (tM1 r to te) ρ z := fun H1 σ a Q q =>
  ho H1 σ a _ fun u H2 s2 o2 => ⟨⟨x, dq_str o2⟩, he H2 σ (a.same s2) _ fun v H3 s3 o3 =>
    hr H3 ((a.same s2).same s3).gr ((a.same s2).same s3).lv u [v] (o2.mono (Same.hid s3)) (.cons o3 .nil) _ fun w H4 s4 o4 => q w H4 (s2.trans (s3.trans s4)) o4⟩
theorem ev_bm {T : String} {r : V → List V → Hp → VK → Prop} {to : TE} {ta : TA} {x : DV} {ys : List DV} {z : DV} (ho : EvX c to ρ x) (ht : ∀ H1 v, VOk c.K (c.hid H1) v x → tyV K T v H1) (he : EvA c ta ρ ys) (hr : RMX c r x ys z) : EvX c (tBM K T r to ta) ρ z := fun H1 σ a Q q =>
  ho H1 σ a _ fun u H2 s2 o2 => ⟨ht H2 u o2, he H2 σ (a.same s2) _ fun vs H3 s3 o3 =>
    hr H3 ((a.same s2).same s3).gr ((a.same s2).same s3).lv u vs (o2.mono (Same.hid s3)) o3 _ fun w H4 s4 o4 => q w H4 (s2.trans (s3.trans s4)) o4⟩
/-- b stands at the head of a -/
def starts (a b : List Nat) : Bool := b.isPrefixOf a
theorem starts_iff {a b : List Nat} : starts a b = true ↔ ∃ r, a = b ++ r := by
  unfold starts
  rw [List.isPrefixOf_iff_prefix]
  exact ⟨fun ⟨r, e⟩ => ⟨r, e.symm⟩, fun ⟨r, e⟩ => ⟨r, e.symm⟩⟩
theorem starts_sw (a b : List Nat) : Txt.startswith (sw a) (sw b) = starts a b := by
  rw [Bool.eq_iff_iff]
  unfold Txt.startswith
  rw [PySem.StrLaws.subAt_eq, Bool.and_eq_true, decide_eq_true_iff, sw_len, sw_len, beq_iff_eq, starts_iff]
  have e1 : (sw a).cps.toList = a := tl_sw a
  have e2 : (sw b).cps.toList = b := tl_sw b
  rw [e1, e2, List.drop_zero]
  constructor
  · rintro ⟨_, h⟩
    exact ⟨a.drop b.length, (by conv => lhs; rw [← List.take_append_drop b.length a, h])⟩
  · rintro ⟨r, rfl⟩
    exact ⟨by rw [List.length_append]; omega, by simp⟩
theorem rm_starts {a b : List Nat} : RMX c (fun x xs H Q => ∃ a b, x = V.str a ∧ xs = [V.str b] ∧ Q (.bl (Txt.startswith a b)) H) (.d (ds a)) [.d (ds b)] (.d (.bool (starts a b))) := fun H1 _ _ v vs hv ha Q q => by
  obtain ⟨w, rfl, o⟩ := args1 ha
  exact ⟨sw a, sw b, dq_str hv, by rw [dq_str o], by rw [starts_sw]; exact q _ H1 (Same.refl _) (Dq.bl _)⟩
/-- "".join -/
def catW (xs : List (List Nat)) : List Nat := xs.flatten
theorem join_sw (xs : List (List Nat)) : Txt.join (sw []) (xs.map sw) = sw xs.flatten := by
  apply TL.ext_tl
  rw [TL.join_eq, TL.tl_join]
  have e0 : TL.tl (sw []) = [] := rfl
  rw [e0, List.map_map]
  have e : (TL.tl ∘ sw) = (id : List Nat → List Nat) := by funext l; exact tl_sw l
  rw [e, List.map_id]
  show TL.joinL [] xs = tl (sw _)
  rw [tl_sw]
  induction xs with
  | nil => rfl
  | cons a r ih =>
    cases r with
    | nil => simp [TL.joinL]
    | cons b r => rw [TL.joinL, ih, List.nil_append, List.flatten_cons (l := a)]
def rJoin (K : PySem.W.Frag) : V → List V → Hp → VK → Prop := fun x xs H Q => ∃ a p, ∃ ys : List Str, x = .str a ∧ xs = [.ref p] ∧ (SqL K H p (ys.map V.str) ∨ SqT K H p (ys.map V.str)) ∧
    (ys.map (·.length)).sum + ys.length * a.length ≤ 16777216 ∧ Q (.str (Txt.join a ys)) H
theorem rm_join {α : Type} {xs : List α} {g : α → List Nat} (h : ((xs.map g).flatten).length ≤ 1000000) : RMX c (rJoin K) (.d (ds [])) [.d (.list (xs.map fun x => ds (g x)))] (.d (ds (xs.map g).flatten)) := fun H1 _ _ v vs hv ha Q q => by
  obtain ⟨w, rfl, o⟩ := args1 ha
  obtain ⟨p, ws, rfl, h1, h2⟩ := dq_list o
  have e : (xs.map fun x => ds (g x)) = ((xs.map g).map sw).map PyData.str := by rw [List.map_map, List.map_map]; rfl
  rw [e] at h2
  obtain rfl := dqAll_strs h2
  refine ⟨sw [], p, (xs.map g).map sw, dq_str hv, rfl, .inl (sqL_of h1), ?_, by rw [join_sw]; exact q _ H1 (Same.refl _) (Dq.str _)⟩
  have e2 : (((xs.map g).map sw).map (·.length)).sum = ((xs.map g).flatten).length := by
    rw [List.length_flatten, List.map_map]
    refine congrArg List.sum ?_
    apply List.map_congr_left
    intro l _
    exact sw_len l
  rw [e2]
  have e3 : (sw []).length = 0 := rfl
  rw [e3]
  omega
end
end TD
set_option Elab.async false
set_option linter.all false
set_option maxRecDepth 100000
set_option maxHeartbeats 400000
/-! Iterators, comprehensions, loops. -/
namespace TD
open PySem PySem.Spec PyProof.Rows L2
/-- what a loop is given -/
inductive IV where
  | d (x : D)
  | pr (x y : D)
def ItV (H : Hp) (v : V) : IV → Prop
  | .d x => Dq H v x
  | .pr x y => ∃ T a b, v = .ref T ∧ H T = some (.tup [a, b]) ∧ Dq H a x ∧ Dq H b y
structure ItOk (M : List Addr) (H2 : Hp) (J : It) (its : List IV) : Prop where
  go : ∀ M' i H', Same (hid M H2) (hid M' H') → Live M' H' → i < its.length → J.go i H'
  stop : ∀ M' i H', Same (hid M H2) (hid M' H') → Live M' H' → its.length ≤ i → J.stop i H'
  yld : ∀ M' i H' v H'', Same (hid M H2) (hid M' H') → Live M' H' → i < its.length → J.yld i H' v H'' → Same H' H'' ∧ ∃ it, its[i]? = some it ∧ ItV (hid M' H'') v it
def EvI (c : Cz) (wi : TI) (ρ : List DV) (its : List IV) : Prop := ∀ H1 σ, At c H1 σ ρ → ∀ R : It → Hp → Prop, (∀ J H2, Same H1 H2 → ItOk c.M H2 J its → R J H2) → wi σ H1 R
section
variable {X : Cx} {tg : Expr}
theorem PI.or {e : Expr} {w1 w2 : TI} (h1 : PI X tg e w1) (h2 : PI X tg e w2) : PI X tg e (fun σ H R => w1 σ H R ∨ w2 σ H R) := ⟨fun pins s σ H R I h => h.elim (h1.run pins s σ H R I) (h2.run pins s σ H R I)⟩
/-- a list, a tuple, a text -/
def iSeq (K : PySem.W.Frag) (tl : TE) : TI := fun σ H R => iList K tl σ H R ∨ iTup K tl σ H R ∨ iStr tl σ H R
theorem pi_seq {e : Expr} {te : TE} (h : PE X e te) : PI X tg e (iSeq X.K te) := PI.or (pi_list h) (PI.or (pi_tup h) (pi_str h))
end
section
variable {c : Cz} {K : PySem.W.Frag} {ρ : List DV}
theorem itOk_list {M : List Addr} {H2 : Hp} {a : Addr} {vs : List V} {xs : List D} (h1 : hid M H2 a = some (.lst vs)) (h2 : DqAll (hid M H2) vs xs) : ItOk M H2 (Itl K a) (xs.map .d) where
  go := fun M' i H' s l hi => by
    rw [List.length_map, ← dqAll_len h2] at hi
    exact ⟨vs, vs[i], .inl (.inl (hid_some (s _ _ h1)).2), List.getElem?_eq_getElem hi⟩
  stop := fun M' i H' s l hi => by
    rw [List.length_map, ← dqAll_len h2] at hi
    exact ⟨vs, .inl (.inl (hid_some (s _ _ h1)).2), hi⟩
  yld := fun M' i H' v H'' s l _ y => by
    obtain ⟨rfl, y⟩ := y
    have e := y vs (.inl (.inl (hid_some (s _ _ h1)).2))
    obtain ⟨d, e1, e2⟩ := dqAll_get h2 e
    exact ⟨Same.refl _, .d d, by rw [List.getElem?_map, e1]; rfl, dq_mono s _ _ e2⟩
theorem itOk_tup {M : List Addr} {H2 : Hp} {a : Addr} {o : Obj} {vs : List V} {xs : List D} (h1 : hid M H2 a = some (.frz o (.tup vs))) (h2 : DqAll (hid M H2) vs xs) : ItOk M H2 (Itt K a) (xs.map .d) where
  go := fun M' i H' s l hi => by
    rw [List.length_map, ← dqAll_len h2] at hi
    exact ⟨vs, vs[i], .inl (.inr ⟨o, (hid_some (s _ _ h1)).2⟩), List.getElem?_eq_getElem hi⟩
  stop := fun M' i H' s l hi => by
    rw [List.length_map, ← dqAll_len h2] at hi
    exact ⟨vs, .inl (.inr ⟨o, (hid_some (s _ _ h1)).2⟩), hi⟩
  yld := fun M' i H' v H'' s l _ y => by
    obtain ⟨rfl, y⟩ := y
    have e := y vs (.inl (.inr ⟨o, (hid_some (s _ _ h1)).2⟩))
    obtain ⟨d, e1, e2⟩ := dqAll_get h2 e
    exact ⟨Same.refl _, .d d, by rw [List.getElem?_map, e1]; rfl, dq_mono s _ _ e2⟩
theorem itOk_str {M : List Addr} {H2 : Hp} {l : List Nat} : ItOk M H2 (Its (sw l)) (l.map fun n => .d (ds [n])) where
  go := fun M' i H' s lv hi => by rw [List.length_map] at hi; show i < l.toArray.size; simpa using hi
  stop := fun M' i H' s lv hi => by rw [List.length_map] at hi; show l.toArray.size ≤ i; simpa using hi
  yld := fun M' i H' v H'' s lv _ y => by
    obtain ⟨rfl, k, e1, rfl⟩ := y
    have e2 : l[i]? = some k := by
      have e3 : l.toArray[i]? = some k := e1
      rwa [List.getElem?_toArray] at e3
    exact ⟨Same.refl _, .d (ds [k]), by rw [List.getElem?_map, e2]; rfl, Dq.str _⟩
theorem ei_list {tl : TE} {xs : List D} (h : EvX c tl ρ (.d (.list xs))) : EvI c (iSeq K tl) ρ (xs.map .d) := fun H1 σ a R r => .inl (h H1 σ a _ fun v H2 s2 o2 => by
  obtain ⟨p, vs, rfl, h1, h2⟩ := dq_list o2
  exact ⟨p, rfl, ⟨vs, sqL_of h1⟩, r _ H2 s2 (itOk_list h1 h2)⟩)
theorem ei_tup {tl : TE} {xs : List D} (h : EvX c tl ρ (.d (.tuple xs))) : EvI c (iSeq K tl) ρ (xs.map .d) := fun H1 σ a R r => .inr (.inl (h H1 σ a _ fun v H2 s2 o2 => by
  obtain ⟨p, o, vs, rfl, h1, h0, h2⟩ := dq_tuple o2
  exact ⟨p, rfl, ⟨vs, sqT_of h1⟩, r _ H2 s2 (itOk_tup h1 h2)⟩))
theorem ei_str {tl : TE} {l : List Nat} (h : EvX c tl ρ (.d (ds l))) : EvI c (iSeq K tl) ρ (l.map fun n => .d (ds [n])) := fun H1 σ a R r => .inr (.inr (h H1 σ a _ fun v H2 s2 o2 => ⟨sw l, dq_str o2, r _ H2 s2 itOk_str⟩))
theorem itOk_rng {M : List Addr} {H2 : Hp} {lo : Int} {n : Nat} : ItOk M H2 (Itr lo n) ((List.range n).map fun (i : Nat) => .d (.int (lo + i))) where
  go := fun M' i H' s l hi => by rw [List.length_map, List.length_range] at hi; exact hi
  stop := fun M' i H' s l hi => by rw [List.length_map, List.length_range] at hi; exact hi
  yld := fun M' i H' v H'' s l hi y => by
    obtain ⟨rfl, rfl⟩ := y
    rw [List.length_map, List.length_range] at hi
    exact ⟨Same.refl _, .d (.int (lo + i)), by rw [List.getElem?_map, List.getElem?_range hi]; rfl, Dq.int _⟩
theorem itOk_rngC {M : List Addr} {H2 : Hp} {lo k : Int} {n : Nat} : ItOk M H2 (Itc lo k n) ((List.range n).map fun (i : Nat) => .d (.int (lo + i * k))) where
  go := fun M' i H' s l hi => by rw [List.length_map, List.length_range] at hi; exact hi
  stop := fun M' i H' s l hi => by rw [List.length_map, List.length_range] at hi; exact hi
  yld := fun M' i H' v H'' s l hi y => by
    obtain ⟨rfl, rfl⟩ := y
    rw [List.length_map, List.length_range] at hi
    exact ⟨Same.refl _, .d (.int (lo + i * k)), by rw [List.getElem?_map, List.getElem?_range hi]; rfl, Dq.int _⟩
/-- range(n), range(a, b), range(a, b, -1) -/
theorem ei_rng1 {ta : TA} {n : Nat} (h : EvA c ta ρ [.d (.int n)]) (hn : n ≤ 1000000) : EvI c (iRng1 ta) ρ ((List.range n).map fun (i : Nat) => .d (.int (0 + i))) := fun H1 σ a R r => h H1 σ a _ fun vs H2 s2 o2 => by
  obtain ⟨v, rfl, o⟩ := args1 o2
  have e : (n : Int).toNat = n := by omega
  have q := r (Itr 0 n) H2 s2 itOk_rng
  exact ⟨n, by rw [dq_int o], by omega, by omega, by rw [e]; exact q⟩
theorem ei_rng2 {ta : TA} {lo hi : Int} (h : EvA c ta ρ [.d (.int lo), .d (.int hi)]) (h1 : -1000000 ≤ lo ∧ lo ≤ 1000000 ∧ -1000000 ≤ hi ∧ hi ≤ 1000000) : EvI c (iRng2 ta) ρ ((List.range (hi - lo).toNat).map fun (i : Nat) => .d (.int (lo + i))) := fun H1 σ a R r => h H1 σ a _ fun vs H2 s2 o2 => by
  obtain ⟨v, w, rfl, o, p⟩ := args2 o2
  exact ⟨lo, hi, by rw [dq_int o, dq_int p], by omega, r (Itr lo (hi - lo).toNat) H2 s2 itOk_rng⟩
theorem ei_rng3 {ta : TA} {lo hi : Int} (h : EvA c ta ρ [.d (.int lo), .d (.int hi), .d (.int (-1))]) (h1 : -1000000 ≤ lo ∧ lo ≤ 1000000 ∧ -1000000 ≤ hi ∧ hi ≤ 1000000) : EvI c (iRng3 ta) ρ ((List.range (lo - hi).toNat).map fun (i : Nat) => .d (.int (lo + i * (-1)))) := fun H1 σ a R r => h H1 σ a _ fun vs H2 s2 o2 => by
  cases o2 with
  | cons o t =>
    obtain ⟨v, w, rfl, p, q⟩ := args2 t
    have o' := dq_int o
    subst o'
    exact ⟨lo, hi, -1, (lo - hi).toNat, by rw [dq_int p, dq_int q], RgC.neg (by omega) (by omega) (by omega) (by omega), r (Itc lo (-1) (lo - hi).toNat) H2 s2 itOk_rngC⟩
/-- zip of two lists, of two tuples -/
theorem zip_get {α β : Type} {xs : List α} {ys : List β} {i : Nat} {x : α} {y : β} (h1 : xs[i]? = some x) (h2 : ys[i]? = some y) : (xs.zip ys)[i]? = some (x, y) := by
  rw [List.getElem?_zip_eq_some]; exact ⟨h1, h2⟩
theorem itOk_zip {M : List Addr} {H2 : Hp} {a b : Addr} {vs ws : List V} {xs ys : List D} (h1 : hid M H2 a = some (.lst vs)) (h2 : DqAll (hid M H2) vs xs) (h3 : hid M H2 b = some (.lst ws)) (h4 : DqAll (hid M H2) ws ys) :
    ItOk M H2 (Itz K a b) ((xs.zip ys).map fun p => .pr p.1 p.2) where
  go := fun M' i H' s l hi => by
    rw [List.length_map, List.length_zip, ← dqAll_len h2, ← dqAll_len h4] at hi
    have a1 : i < vs.length := by omega
    have a2 : i < ws.length := by omega
    exact ⟨vs, ws, vs[i], ws[i], .inl (.inl (hid_some (s _ _ h1)).2), .inl (.inl (hid_some (s _ _ h3)).2), List.getElem?_eq_getElem a1, List.getElem?_eq_getElem a2⟩
  stop := fun M' i H' s l hi => by
    rw [List.length_map, List.length_zip, ← dqAll_len h2, ← dqAll_len h4] at hi
    exact ⟨vs, ws, .inl (.inl (hid_some (s _ _ h1)).2), .inl (.inl (hid_some (s _ _ h3)).2), by omega⟩
  yld := fun M' i H' v H'' s l _ y => by
    obtain ⟨T, x, y, rfl, hT, rfl, y1, y2⟩ := y
    have e1 := y1 vs (.inl (.inl (hid_some (s _ _ h1)).2))
    have e2 := y2 ws (.inl (.inl (hid_some (s _ _ h3)).2))
    obtain ⟨d, f1, f2⟩ := dqAll_get h2 e1
    obtain ⟨e, g1, g2⟩ := dqAll_get h4 e2
    have sn := Same.hid (M := M') (same_new hT (.tup [x, y]))
    exact ⟨same_new hT _, .pr d e, by rw [List.getElem?_map, zip_get f1 g1]; rfl, T, x, y, rfl, by rw [hid_upd_out (l.new hT)]; exact upd_same, dq_mono sn _ _ (dq_mono s _ _ f2), dq_mono sn _ _ (dq_mono s _ _ g2)⟩
theorem itOk_zipT {M : List Addr} {H2 : Hp} {a b : Addr} {o o' : Obj} {vs ws : List V} {xs ys : List D} (h1 : hid M H2 a = some (.frz o (.tup vs))) (h2 : DqAll (hid M H2) vs xs) (h3 : hid M H2 b = some (.frz o' (.tup ws))) (h4 : DqAll (hid M H2) ws ys) :
    ItOk M H2 (RZ.ItzT K a b) ((xs.zip ys).map fun p => .pr p.1 p.2) where
  go := fun M' i H' s l hi => by
    rw [List.length_map, List.length_zip, ← dqAll_len h2, ← dqAll_len h4] at hi
    have a1 : i < vs.length := by omega
    have a2 : i < ws.length := by omega
    exact ⟨vs, ws, vs[i], ws[i], .inl (.inr ⟨_, (hid_some (s _ _ h1)).2⟩), .inl (.inr ⟨_, (hid_some (s _ _ h3)).2⟩), List.getElem?_eq_getElem a1, List.getElem?_eq_getElem a2⟩
  stop := fun M' i H' s l hi => by
    rw [List.length_map, List.length_zip, ← dqAll_len h2, ← dqAll_len h4] at hi
    exact ⟨vs, ws, .inl (.inr ⟨_, (hid_some (s _ _ h1)).2⟩), .inl (.inr ⟨_, (hid_some (s _ _ h3)).2⟩), by omega⟩
  yld := fun M' i H' v H'' s l _ y => by
    obtain ⟨T, x, y, rfl, hT, rfl, y1, y2⟩ := y
    have e1 := y1 vs (.inl (.inr ⟨_, (hid_some (s _ _ h1)).2⟩))
    have e2 := y2 ws (.inl (.inr ⟨_, (hid_some (s _ _ h3)).2⟩))
    obtain ⟨d, f1, f2⟩ := dqAll_get h2 e1
    obtain ⟨e, g1, g2⟩ := dqAll_get h4 e2
    have sn := Same.hid (M := M') (same_new hT (.tup [x, y]))
    exact ⟨same_new hT _, .pr d e, by rw [List.getElem?_map, zip_get f1 g1]; rfl, T, x, y, rfl, by rw [hid_upd_out (l.new hT)]; exact upd_same, dq_mono sn _ _ (dq_mono s _ _ f2), dq_mono sn _ _ (dq_mono s _ _ g2)⟩
theorem ei_zipL {ta : TA} {xs ys : List D} (h : EvA c ta ρ [.d (.list xs), .d (.list ys)]) : EvI c (RZ.iZipA K ta) ρ ((xs.zip ys).map fun p => .pr p.1 p.2) := fun H1 σ a R r => h H1 σ a _ fun vs H2 s2 o2 => by
  obtain ⟨v, w, rfl, o, p⟩ := args2 o2
  obtain ⟨a1, vs, rfl, h1, h2⟩ := dq_list o
  obtain ⟨a2, ws, rfl, h3, h4⟩ := dq_list p
  exact ⟨a1, a2, vs, ws, rfl, .inl ⟨sqL_of h1, sqL_of h3, r _ H2 s2 (itOk_zip h1 h2 h3 h4)⟩⟩
theorem ei_zipT {ta : TA} {xs ys : List D} (h : EvA c ta ρ [.d (.tuple xs), .d (.tuple ys)]) : EvI c (RZ.iZipA K ta) ρ ((xs.zip ys).map fun p => .pr p.1 p.2) := fun H1 σ a R r => h H1 σ a _ fun vs H2 s2 o2 => by
  obtain ⟨v, w, rfl, o, p⟩ := args2 o2
  obtain ⟨a1, o1, vs, rfl, h1, _, h2⟩ := dq_tuple o
  obtain ⟨a2, o3, ws, rfl, h3, _, h4⟩ := dq_tuple p
  exact ⟨a1, a2, vs, ws, rfl, .inr ⟨sqT_of h1, sqT_of h3, r _ H2 s2 (itOk_zipT h1 h2 h3 h4)⟩⟩

/-! ### targets -/
theorem wipe_set {σ : L2.St} {j : Nat} {o : Option V} : ∀ {vs : List Nat}, j ∈ vs → wipe (σ.set j o) vs = wipe σ vs
  | [], h => by simp at h
  | v :: vs, h => by
    show (wipe (σ.set j o) vs).set v none = (wipe σ vs).set v none
    by_cases e : j ∈ vs
    · rw [wipe_set e]
    · have ev : j = v := by rcases List.mem_cons.mp h with h | h; exact h; exact absurd h e
      subst ev
      have w : ∀ vs : List Nat, j ∉ vs → wipe (σ.set j o) vs = (wipe σ vs).set j o := by
        intro vs
        induction vs with
        | nil => intro _; rfl
        | cons u us ih =>
          intro hn
          show (wipe (σ.set j o) us).set u none = ((wipe σ us).set u none).set j o
          rw [ih (fun z => hn (List.mem_cons_of_mem _ z)), List.set_comm]
          intro z; exact hn (by rw [z]; exact List.mem_cons_self)
      rw [w vs e, List.set_set]
theorem wipe_wipe {σ : L2.St} : ∀ {us vs : List Nat}, (∀ j ∈ us, j ∈ vs) → wipe (wipe σ us) vs = wipe σ vs
  | [], _, _ => rfl
  | u :: us, vs, h => by
    show wipe ((wipe σ us).set u none) vs = _
    rw [wipe_set (h u List.mem_cons_self), wipe_wipe fun j hj => h j (List.mem_cons_of_mem _ hj)]
/-- the target takes the item: ρ becomes ρ'; the slots at js are set -/
def GOk (K : PySem.W.Frag) (js : List Nat) (g : TG) (it : IV) (ρ ρ' : List DV) : Prop := ∀ M H σ v (Q : L2.St → Hp → Prop), Env K (hid M H) σ ρ → ItV (hid M H) v it →
  (∀ σ', Env K (hid M H) σ' ρ' → (∀ vs, (∀ j ∈ js, j ∈ vs) → wipe σ' vs = wipe σ vs) → Q σ' H) → g v σ H Q
def GsOk (K : PySem.W.Frag) (js : List Nat) (g : TGs) (xs : List D) (ρ ρ' : List DV) : Prop := ∀ M H σ vs (Q : L2.St → Hp → Prop), Env K (hid M H) σ ρ → DqAll (hid M H) vs xs →
  (∀ σ', Env K (hid M H) σ' ρ' → (∀ vs, (∀ j ∈ js, j ∈ vs) → wipe σ' vs = wipe σ vs) → Q σ' H) → g vs σ H Q
theorem g_name {j : Nat} {x : D} : GOk K [j] (gName j) (.d x) ρ (ρ.set j (.d x)) := fun M H σ v Q e o q => q _ (e.set j ⟨v, rfl, o⟩) fun vs h => wipe_set (h j (by simp))
theorem gs_nil : GsOk K [] gNil [] ρ ρ := fun M H σ vs Q e o q => by cases o; exact ⟨rfl, q σ e fun _ _ => rfl⟩
theorem gs_cons {js1 js2 : List Nat} {t : TG} {u : TGs} {x : D} {xs : List D} {ρ1 ρ2 : List DV} (h1 : GOk K js1 t (.d x) ρ ρ1) (h2 : GsOk K js2 u xs ρ1 ρ2) : GsOk K (js1 ++ js2) (gCons t u) (x :: xs) ρ ρ2 := fun M H σ vs Q e o q => by
  cases o with
  | cons o1 o2 =>
    refine ⟨_, _, rfl, h1 M H σ _ _ e o1 fun σ1 e1 w1 => h2 M H σ1 _ _ e1 o2 fun σ2 e2 w2 => q σ2 e2 fun vs hv => ?_⟩
    rw [w2 vs fun j hj => hv j (List.mem_append_right _ hj), w1 vs fun j hj => hv j (List.mem_append_left _ hj)]
theorem g_tup {js : List Nat} {n : Nat} {t : TGs} {xs : List D} {ρ' : List DV} (h : GsOk K js t xs ρ ρ') (hn : xs.length = n := by rfl) : GOk K js (gTup K n t) (.d (.tuple xs)) ρ ρ' := fun M H σ v Q e o q => by
  obtain ⟨a, ob, ws, rfl, h1, _, h2⟩ := dq_tuple o
  exact ⟨a, ws, rfl, sqT_of h1, by rw [dqAll_len h2]; exact hn, h M H σ ws Q e h2 q⟩
theorem g_pair {js : List Nat} {t : TGs} {x y : D} {ρ' : List DV} (h : GsOk K js t [x, y] ρ ρ') : GOk K js (gTup K 2 t) (.pr x y) ρ ρ' := fun M H σ v Q e o q => by
  obtain ⟨T, a, b, rfl, h1, h2, h3⟩ := o
  exact ⟨T, [a, b], rfl, .inl (.inl (hid_some h1).2), rfl, h M H σ _ Q e (.cons h2 (.cons h3 .nil)) q⟩
theorem ItV.mono {H H' : Hp} (s : Same H H') {v : V} : ∀ {it : IV}, ItV H v it → ItV H' v it
  | .d x, h => dq_mono s _ _ h
  | .pr _ _, ⟨T, a, b, e, h1, h2, h3⟩ => ⟨T, a, b, e, s _ _ h1, dq_mono s _ _ h2, dq_mono s _ _ h3⟩

/-! ### comprehensions -/
abbrev Cz.push (c : Cz) (p : Addr) : Cz := { c with M := p :: c.M }
theorem hid_cons {M : List Addr} {H : Hp} {p : Addr} : Same (hid (p :: M) H) (hid M H) := fun b o e => by
  obtain ⟨h1, h2⟩ := hid_some e
  rw [hid_out fun z => h1 (List.mem_cons_of_mem _ z)]; exact h2
theorem hid_new {M : List Addr} {H H' : Hp} {p : Addr} (hp : H p = none) (s : Same H H') : Same (hid M H) (hid (p :: M) H') := fun b o e => by
  obtain ⟨h1, h2⟩ := hid_some e
  have hb : b ≠ p := ne_of_none h2 hp
  rw [hid_out (by simp [hb, h1])]; exact s b o h2
theorem filter_take_succ {α : Type} {p : α → Bool} {xs : List α} {i : Nat} {x : α} (h : xs[i]? = some x) : (xs.take (i + 1)).filter p = (xs.take i).filter p ++ (if p x = true then [x] else []) := by
  rw [List.take_add_one, h, List.filter_append]
  refine congrArg _ ?_
  show List.filter p [x] = _
  rw [List.filter_cons]
  rfl
theorem ev_lc {wi : TI} {g : TG} {tt : TT} {te : TE} {vs : List Nat} {α : Type} {its : List α} {it : α → IV} {p : α → Bool} {f : α → D} {js : List Nat} {ρ' : α → List DV} (hi : EvI c wi ρ (its.map it))
    (hg : ∀ x ∈ its, GOk c.K js g (it x) (wipeD ρ vs) (ρ' x)) (hj : ∀ j ∈ js, j ∈ vs) (ht : ∀ q x, x ∈ its → EvB (c.push q) tt (ρ' x) (p x)) (he : ∀ q x, x ∈ its → p x = true → EvX (c.push q) te (ρ' x) (.d (f x))) (hz : its.length ≤ 1000000) :
    EvX c (tLc wi g tt te vs) ρ (.d (.list ((its.filter p).map f))) := fun H1 σ a Q q => hi H1 σ a _ fun J H2 s2 ok q0 hq0 => by
  have a2 := a.same s2
  have hl : (its.map it).length = its.length := List.length_map _
  refine ⟨fun i m H' => m = its.length - i ∧ i ≤ its.length ∧ Same H2 H' ∧ ∃ acc, H' q0 = some (.lst acc) ∧ DqAll (hid (q0 :: c.M) H') acc (((its.take i).filter p).map f), ⟨_, rfl, Nat.zero_le _, same_new hq0 _, [], upd_same, .nil⟩, ?_⟩
  rintro i m H' ⟨rfl, hi', s, acc, e1, e2⟩
  have s3 : Same (hid c.M H2) (hid (q0 :: c.M) H') := hid_new hq0 s
  have lv : Live (q0 :: c.M) H' := fun b hb => by
    rcases List.mem_cons.mp hb with rfl | hb
    · rw [e1]; exact fun z => by cases z
    · exact a2.lv.same s b hb
  have hacc : acc.length ≤ i := by
    rw [dqAll_len e2, List.length_map]
    exact Nat.le_trans (List.length_filter_le _ _) (by rw [List.length_take]; exact Nat.min_le_left _ _)
  by_cases hlt : i < its.length
  · refine .inr ⟨ok.go _ i H' s3 lv (by rw [hl]; exact hlt), _, fun H'' z => z, fun v H3 y => ?_⟩
    obtain ⟨s4, itv, f1, f2⟩ := ok.yld _ i H' v H3 s3 lv (by rw [hl]; exact hlt) y
    obtain ⟨x, hx, rfl⟩ : ∃ x, its[i]? = some x ∧ it x = itv := by
      rw [List.getElem?_map] at f1
      cases h : its[i]? with
      | none => rw [h] at f1; cases f1
      | some x => rw [h] at f1; exact ⟨x, rfl, Option.some.inj f1⟩
    have hmem : x ∈ its := List.mem_of_getElem? hx
    have hk := filter_take_succ (p := p) hx
    have A3 : Env c.K (hid (q0 :: c.M) H3) (wipe σ vs) (wipeD ρ vs) := ((a2.env.mono s3).mono (Same.hid s4)).wipe vs
    refine hg x hmem (q0 :: c.M) H3 (wipe σ vs) v _ A3 f2 fun σ' e' w' => ⟨?_, ?_⟩
    · rw [w' vs hj]; exact wipe_wipe fun j hj => hj
    · have at3 : At (c.push q0) H3 σ' (ρ' x) := ⟨a2.gr.trans (Same.gr (s.trans s4)), lv.same s4, e'⟩
      refine ht q0 x hmem H3 σ' at3 _ fun H4 s5 => ?_
      refine ite2 (fun hp => ?_) (fun hp => ?_)
      · refine he q0 x hmem hp H4 σ' (at3.same s5) _ fun w H5 s6 o6 => ?_
        have e5 : H5 q0 = some (.lst acc) := s6 _ _ (s5 _ _ (s4 _ _ e1))
        have sh := Same.hid (M := q0 :: c.M) (s4.trans (s5.trans s6))
        have up : Same (hid (q0 :: c.M) H5) (hid (q0 :: c.M) (upd H5 q0 (.lst (acc ++ [w])))) := fun b o eb => by
          obtain ⟨h1, h2⟩ := hid_some eb
          rw [hid_out h1, upd_ne fun z => h1 (by rw [z]; exact List.mem_cons_self)]; exact h2
        refine ⟨acc, e5, Nat.lt_of_le_of_lt (Nat.le_trans hacc (Nat.le_of_lt (Nat.lt_of_lt_of_le hlt hz))) (by decide), its.length - (i + 1), by omega, rfl, hlt, fun b o eb => ?_, acc ++ [w], upd_same, ?_⟩
        · rw [upd_ne (ne_of_none eb hq0)]; exact s6 _ _ (s5 _ _ (s4 _ _ (s _ _ eb)))
        · rw [hk, if_pos hp, List.map_append]
          exact dqAll_app (dqAll_mono up _ _ (dqAll_mono sh _ _ e2)) (.cons (dq_mono up _ _ o6) .nil)
      · have hp' : p x = false := Bool.eq_false_iff.mpr hp
        refine ⟨its.length - (i + 1), by omega, rfl, hlt, s.trans (s4.trans s5), acc, s5 _ _ (s4 _ _ e1), ?_⟩
        rw [hk, if_neg hp, List.append_nil]
        exact dqAll_mono (Same.hid (s4.trans s5)) _ _ e2
  · have e : i = its.length := by omega
    subst e
    refine .inl ⟨ok.stop _ _ H' s3 lv (by rw [hl]; exact Nat.le_refl _), q _ H' (s2.trans s) ?_⟩
    rw [List.take_length] at e2
    have hn : q0 ∉ c.M := fun z => by have := a2.lv q0 z; exact this hq0
    exact .lst (by show hid c.M H' q0 = _; rw [hid_out hn]; exact e1) (dqAll_mono hid_cons _ _ e2)
end
end TD
set_option Elab.async false
set_option linter.all false
set_option maxRecDepth 100000
set_option maxHeartbeats 400000
/-! Statements, loops, defs. -/
namespace TD
open PySem PySem.Spec PyProof.Rows L2
/-- where a statement stands -/
structure Sta (K : PySem.W.Frag) (M : List Addr) (H : Hp) (σ : L2.St) (ρ : List DV) : Prop where
  lv : Live M H
  env : Env K (hid M H) σ ρ
abbrev cz (K : PySem.W.Frag) (M : List Addr) (H : Hp) : Cz := ⟨K, M, [], H⟩
section
variable {K : PySem.W.Frag} {M : List Addr} {H : Hp} {σ : L2.St} {ρ : List DV} {D : Ends}
theorem Sta.at (s : Sta K M H σ ρ) : At (cz K M H) H σ ρ := ⟨Gr.refl _ _, s.lv, s.env⟩
theorem Sta.same {H' : Hp} (s : Sta K M H σ ρ) (h : Same H H') : Sta K M H' σ ρ := ⟨s.lv.same h, s.env.mono (Same.hid h)⟩
theorem Sta.set {i : Nat} {v : V} {x : DV} (s : Sta K M H σ ρ) (h : VOk K (hid M H) v x) : Sta K M H (σ.set i (some v)) (ρ.set i x) := ⟨s.lv, s.env.set i (SOk.of h)⟩
/-- fewer are hidden -/
theorem Sta.drop {M' : List Addr} (s : Sta K M H σ ρ) (h : ∀ m ∈ M', m ∈ M) : Sta K M' H σ ρ := ⟨fun m hm => s.lv m (h m hm), s.env.mono fun b o e => by
  obtain ⟨h1, h2⟩ := hid_some e
  rw [hid_out fun z => h1 (h b z)]; exact h2⟩
/-- one more is hidden, new -/
theorem Sta.push {p : Addr} {o : HO} (s : Sta K M H σ ρ) (hp : H p = none) : Sta K (p :: M) (upd H p o) σ ρ := ⟨fun m hm => by
  by_cases e : m = p
  · subst e; rw [upd_same]; exact fun z => by cases z
  · rw [upd_ne e]
    rcases List.mem_cons.mp hm with h | h
    · exact absurd h e
    · exact s.lv m h, s.env.mono (hid_new hp (same_new hp _))⟩
/-- a hidden one is written -/
theorem hid_upd_in {p : Addr} {o : HO} (h : p ∈ M) : hid M (upd H p o) = hid M H := by
  funext b
  unfold hid
  by_cases q : b ∈ M
  · rw [if_pos q, if_pos q]
  · rw [if_neg q, if_neg q, upd_ne fun z => q (by rw [z]; exact h)]
theorem Sta.write {p : Addr} {o : HO} (s : Sta K M H σ ρ) (hp : p ∈ M) : Sta K M (upd H p o) σ ρ := ⟨fun m hm => by
  by_cases e : m = p
  · subst e; rw [upd_same]; exact fun z => by cases z
  · rw [upd_ne e]; exact s.lv m hm, by rw [hid_upd_in hp]; exact s.env⟩

/-! ### statements; the rest behind (q_) or nothing behind (s_) -/
variable {te : TE} {tt : TT} {tu tw tz : TS} {x : DV} {i : Nat}
theorem q_asg (s : Sta K M H σ ρ) (h : EvX (cz K M H) te ρ x) (k : ∀ σ' H', Same H H' → Sta K M H' σ' (ρ.set i x) → tz D σ' H') : tSeq (tAsg te (gName i)) tz D σ H :=
  h H σ s.at _ fun v H2 s2 o2 => k _ H2 s2 ((s.same s2).set o2)
theorem s_asg (s : Sta K M H σ ρ) (h : EvX (cz K M H) te ρ x) (k : ∀ σ' H', Same H H' → Sta K M H' σ' (ρ.set i x) → D.nx σ' H') : tAsg te (gName i) D σ H :=
  h H σ s.at _ fun v H2 s2 o2 => k _ H2 s2 ((s.same s2).set o2)
theorem q_drop (s : Sta K M H σ ρ) (h : EvX (cz K M H) te ρ x) (k : ∀ H', Same H H' → Sta K M H' σ ρ → tz D σ H') : tSeq (tDrop te) tz D σ H :=
  h H σ s.at _ fun v H2 s2 o2 => k H2 s2 (s.same s2)
theorem s_ret (s : Sta K M H σ ρ) (h : EvX (cz K M H) te ρ x) (k : ∀ v H', Same H H' → VOk K (hid M H') v x → D.rt v H') : tRet te D σ H := h H σ s.at _ fun v H2 s2 o2 => k v H2 s2 o2
theorem s_if {b : Bool} (s : Sta K M H σ ρ) (h : EvB (cz K M H) tt ρ b) (h1 : b = true → ∀ H', Same H H' → Sta K M H' σ ρ → tu D σ H') (h2 : b = false → ∀ H', Same H H' → Sta K M H' σ ρ → tw D σ H') : tIfS tt tu tw D σ H :=
  h H σ s.at _ fun H2 s2 => by
    cases b with
    | true => exact iteT (h1 rfl H2 s2 (s.same s2))
    | false => exact iteF (h2 rfl H2 s2 (s.same s2))
theorem q_if {b : Bool} (s : Sta K M H σ ρ) (h : EvB (cz K M H) tt ρ b) (h1 : b = true → ∀ H', Same H H' → Sta K M H' σ ρ → tu { D with nx := tz D } σ H') (h2 : b = false → ∀ H', Same H H' → Sta K M H' σ ρ → tw { D with nx := tz D } σ H') : tSeq (tIfS tt tu tw) tz D σ H :=
  s_if (D := { D with nx := tz D }) s h h1 h2
/-- if without else -/
theorem q_when {b : Bool} (s : Sta K M H σ ρ) (h : EvB (cz K M H) tt ρ b) (h1 : b = true → ∀ H', Same H H' → Sta K M H' σ ρ → tu { D with nx := tz D } σ H') (h2 : b = false → ∀ H', Same H H' → Sta K M H' σ ρ → tz D σ H') : tSeq (tIfS tt tu tNext) tz D σ H :=
  s_if (D := { D with nx := tz D }) s h h1 h2
/-- targets -/
theorem q_asgG {js : List Nat} {g : TG} {y : PyData} {ρ' : List DV} (s : Sta K M H σ ρ) (h : EvX (cz K M H) te ρ (.d y)) (hg : GOk K js g (.d y) ρ ρ') (k : ∀ σ' H', Same H H' → Sta K M H' σ' ρ' → tz D σ' H') : tSeq (tAsg te g) tz D σ H :=
  h H σ s.at _ fun v H2 s2 o2 => hg M H2 σ v _ (s.same s2).env o2 fun σ' e' _ => k σ' H2 s2 ⟨(s.same s2).lv, e'⟩
/-- a, b = x, y -/
theorem q_par {i j : Nat} {ta : TA} {x y : DV} (s : Sta K M H σ ρ) (h : EvA (cz K M H) ta ρ [x, y]) (k : ∀ σ' H', Same H H' → Sta K M H' σ' ((ρ.set i x).set j y) → tz D σ' H') : tSeq (tPar i j ta) tz D σ H :=
  h H σ s.at _ fun vs H2 s2 o2 => by
    obtain ⟨v, w, rfl, o, p⟩ := args2 o2
    exact ⟨v, w, rfl, k _ H2 s2 (((s.same s2).set o).set p)⟩

/-! ### loops -/
/-- the loop's invariant between two turns -/
def LS (K : PySem.W.Frag) (M : List Addr) (Pv : List DV → Hp → Prop) (H : Hp) (σ' : L2.St) (H' : Hp) : Prop := ∃ ρ', Same (hid M H) (hid M H') ∧ Sta K M H' σ' ρ' ∧ Pv ρ' H'
theorem s_for {wi : TI} {g : TG} {α : Type} {ys : List α} {it : α → IV} {js : List Nat} {up : α → List DV → List DV} (s : Sta K M H σ ρ) (hi : EvI (cz K M H) wi ρ (ys.map it)) (hg : ∀ y ∈ ys, ∀ ρ', GOk K js g (it y) ρ' (up y ρ'))
    (Pv : Nat → List DV → Hp → Prop) (h0 : ∀ H1, Same H H1 → Pv 0 ρ H1)
    (hs : ∀ i y σ' ρ' H' H3 Hb, ys[i]? = some y → Same (hid M H) (hid M Hb) → Same (hid M Hb) (hid M H') → Pv i ρ' H' → Same H' H3 → Sta K M H3 σ' (up y ρ') → tu { D with nx := LS K M (Pv (i + 1)) Hb, ct := LS K M (Pv (i + 1)) Hb, bk := D.nx } σ' H3)
    (hd : ∀ σ' ρ' H', Same (hid M H) (hid M H') → Sta K M H' σ' ρ' → Pv ys.length ρ' H' → D.nx σ' H') : tFor wi g tu D σ H := hi H σ s.at _ fun J H1 s1 ok => by
  have hl : (ys.map it).length = ys.length := List.length_map _
  refine ⟨fun i m σ' H' => m = ys.length - i ∧ i ≤ ys.length ∧ Same (hid M H1) (hid M H') ∧ ∃ ρ', Sta K M H' σ' ρ' ∧ Pv i ρ' H', ⟨_, rfl, Nat.zero_le _, Same.refl _, ρ, s.same s1, h0 H1 s1⟩, ?_⟩
  rintro i m σ' H' ⟨rfl, hi', sm, ρ', st, pv⟩
  have s1' := Same.hid (M := M) s1
  by_cases hlt : i < ys.length
  · refine .inr ⟨ok.go M i H' sm st.lv (by rw [hl]; exact hlt), LS K M (Pv (i + 1)) H1, ?_, fun v H3 y => ?_⟩
    · rintro σ'' H'' ⟨ρ'', s5, st5, pv5⟩
      exact ⟨ys.length - (i + 1), by omega, rfl, hlt, s5, ρ'', st5, pv5⟩
    · obtain ⟨s4, itv, f1, f2⟩ := ok.yld M i H' v H3 sm st.lv (by rw [hl]; exact hlt) y
      obtain ⟨x, hx, rfl⟩ : ∃ x, ys[i]? = some x ∧ it x = itv := by
        rw [List.getElem?_map] at f1
        cases h : ys[i]? with
        | none => rw [h] at f1; cases f1
        | some x => rw [h] at f1; exact ⟨x, rfl, Option.some.inj f1⟩
      have st3 := st.same s4
      refine hg x (List.mem_of_getElem? hx) ρ' M H3 σ' v _ st3.env f2 fun σ2 e2 _ => ?_
      exact hs i x σ2 ρ' H' H3 H1 hx s1' sm pv s4 ⟨st3.lv, e2⟩
  · have e : i = ys.length := by omega
    subst e
    exact .inl ⟨ok.stop M _ H' sm st.lv (by rw [hl]; exact Nat.le_refl _), hd σ' ρ' H' (s1'.trans sm) st pv⟩
theorem q_for {wi : TI} {g : TG} {α : Type} {ys : List α} {it : α → IV} {js : List Nat} {up : α → List DV → List DV} (s : Sta K M H σ ρ) (hi : EvI (cz K M H) wi ρ (ys.map it)) (hg : ∀ y ∈ ys, ∀ ρ', GOk K js g (it y) ρ' (up y ρ'))
    (Pv : Nat → List DV → Hp → Prop) (h0 : ∀ H1, Same H H1 → Pv 0 ρ H1)
    (hs : ∀ i y σ' ρ' H' H3 Hb, ys[i]? = some y → Same (hid M H) (hid M Hb) → Same (hid M Hb) (hid M H') → Pv i ρ' H' → Same H' H3 → Sta K M H3 σ' (up y ρ') → tu { D with nx := LS K M (Pv (i + 1)) Hb, ct := LS K M (Pv (i + 1)) Hb, bk := tz D } σ' H3)
    (hd : ∀ σ' ρ' H', Same (hid M H) (hid M H') → Sta K M H' σ' ρ' → Pv ys.length ρ' H' → tz D σ' H') : tSeq (tFor wi g tu) tz D σ H :=
  s_for (D := { D with nx := tz D }) s hi hg Pv h0 hs hd
theorem s_while (s : Sta K M H σ ρ) (Pv : Nat → List DV → Hp → Prop) (m0 : Nat) (h0 : Pv m0 ρ H)
    (hs : ∀ m σ' ρ' H', Same (hid M H) (hid M H') → Sta K M H' σ' ρ' → Pv m ρ' H' → ∃ b, EvB (cz K M H') tt ρ' b ∧
      (b = true → ∀ H3, Same H' H3 → Sta K M H3 σ' ρ' → tu { D with nx := fun σ'' H'' => ∃ m', m' < m ∧ LS K M (Pv m') H σ'' H'', ct := fun σ'' H'' => ∃ m', m' < m ∧ LS K M (Pv m') H σ'' H'', bk := D.nx } σ' H3) ∧
      (b = false → ∀ H3, Same H' H3 → Sta K M H3 σ' ρ' → D.nx σ' H3)) : tWhile tt tu D σ H := by
  refine ⟨fun m σ' H' => LS K M (Pv m) H σ' H', ⟨m0, ρ, Same.refl _, s, h0⟩, ?_⟩
  rintro m σ' H' ⟨ρ', sm, st, pv⟩
  obtain ⟨b, hb, h1, h2⟩ := hs m σ' ρ' H' sm st pv
  refine hb H' σ' st.at _ fun H3 s3 => ?_
  cases b with
  | true => exact iteT ⟨_, fun _ _ z => z, h1 rfl H3 s3 (st.same s3)⟩
  | false => exact iteF (h2 rfl H3 s3 (st.same s3))
theorem q_while (s : Sta K M H σ ρ) (Pv : Nat → List DV → Hp → Prop) (m0 : Nat) (h0 : Pv m0 ρ H)
    (hs : ∀ m σ' ρ' H', Same (hid M H) (hid M H') → Sta K M H' σ' ρ' → Pv m ρ' H' → ∃ b, EvB (cz K M H') tt ρ' b ∧
      (b = true → ∀ H3, Same H' H3 → Sta K M H3 σ' ρ' → tu { D with nx := fun σ'' H'' => ∃ m', m' < m ∧ LS K M (Pv m') H σ'' H'', ct := fun σ'' H'' => ∃ m', m' < m ∧ LS K M (Pv m') H σ'' H'', bk := tz D } σ' H3) ∧
      (b = false → ∀ H3, Same H' H3 → Sta K M H3 σ' ρ' → tz D σ' H3)) : tSeq (tWhile tt tu) tz D σ H :=
  s_while (D := { D with nx := tz D }) s Pv m0 h0 hs

/-! ### a list that changes, hidden -/
/-- at p stands a list of the data xs, hidden -/
def ML (M : List Addr) (H : Hp) (p : Addr) (xs : List PyData) : Prop := p ∈ M ∧ ∃ vs, H p = some (.lst vs) ∧ DqAll (hid M H) vs xs
theorem ML.same {H' : Hp} {p : Addr} {xs : List PyData} (h : ML M H p xs) (s : Same H H') : ML M H' p xs := ⟨h.1, let ⟨vs, a, b⟩ := h.2; ⟨vs, s _ _ a, dqAll_mono (Same.hid s) _ _ b⟩⟩
/-- shown again, it is data -/
theorem ML.data {M' : List Addr} {p : Addr} {xs : List PyData} (h : ML M H p xs) (hs : ∀ m ∈ M', m ∈ M) (hp : p ∉ M') : Dq (hid M' H) (.ref p) (.list xs) := by
  obtain ⟨_, vs, a, b⟩ := h
  exact .lst (by rw [hid_out hp]; exact a) (dqAll_mono (fun c o e => by
    obtain ⟨h1, h2⟩ := hid_some e
    rw [hid_out fun z => h1 (hs c z)]; exact h2) _ _ b)
/-- p = [..] : a new list, hidden from now on -/
theorem q_newL {ta : TA} {xs : List PyData} (s : Sta K M H σ ρ) (h : EvA (cz K M H) ta ρ (xs.map DV.d)) (hz : xs.length ≤ 1000) (k : ∀ p σ' H', H p = none → p ∉ M → Same (hid M H) (hid (p :: M) H') → Same H H' → Sta K (p :: M) H' σ' (ρ.set i (.v (.ref p))) → ML (p :: M) H' p xs → tz D σ' H') : tSeq (tAsg (tLst ta) (gName i)) tz D σ H :=
  h H σ s.at _ fun vs H2 s2 o2 => by
    have hd := args_dq o2
    refine ⟨by rw [dqAll_len hd]; exact Nat.le_trans hz (by decide), fun p hp => ?_⟩
    have st := s.same s2
    have nm : p ∉ M := st.lv.new hp
    have sn := same_new hp (HO.lst vs)
    have st3 := st.push (o := .lst vs) hp
    exact k p _ _ (by cases e : H p with | none => rfl | some o => rw [s2 _ _ e] at hp; cases hp) nm ((Same.hid s2).trans (hid_new hp sn)) (s2.trans sn) (st3.set (x := .v (.ref p)) rfl) ⟨List.mem_cons_self, vs, upd_same, dqAll_mono (hid_new hp sn) _ _ hd⟩
/-- p.append(e) -/
theorem q_app {K' : PySem.W.Frag} {to : TE} {p : Addr} {xs : List PyData} {y : PyData} (s : Sta K M H σ ρ) (m : ML M H p xs) (ho : EvX (cz K M H) to ρ (.v (.ref p))) (h : EvX (cz K M H) te ρ (.d y)) (hz : xs.length ≤ 1000000)
    (k : ∀ H', Same (hid M H) (hid M H') → Gr [p] H H' → Sta K M H' σ ρ → ML M H' p (xs ++ [y]) → tz D σ H') : tSeq (tDrop (tBM K' "list" rAppend to (tCons te tNil))) tz D σ H :=
  ho H σ s.at _ fun v H2 s2 o2 => by
    obtain rfl : v = V.ref p := o2
    have m2 := m.same s2
    obtain ⟨_, vs, a, b⟩ := m2
    refine ⟨.inl ⟨rfl, vs, .inl (.inl a)⟩, h H2 σ (s.at.same s2) _ fun w H3 s3 o3 => ?_⟩
    have m3 := m.same (s2.trans s3)
    obtain ⟨mp, vs', a', b'⟩ := m3
    refine ⟨p, vs', w, rfl, rfl, a', ?_, ?_⟩
    · rw [dqAll_len b']; exact Nat.lt_of_le_of_lt hz (by decide)
    · have e : hid M (upd H3 p (.lst (vs' ++ [w]))) = hid M H3 := hid_upd_in mp
      refine k _ (by rw [e]; exact Same.hid (s2.trans s3)) (fun b o n e => ?_) ((s.same (s2.trans s3)).write mp) ⟨mp, _, upd_same, by rw [e]; exact dqAll_app b' (.cons o3 .nil)⟩
      rw [upd_ne (by simpa using n)]; exact s3 _ _ (s2 _ _ e)
theorem s_app {K' : PySem.W.Frag} {to : TE} {p : Addr} {xs : List PyData} {y : PyData} (s : Sta K M H σ ρ) (m : ML M H p xs) (ho : EvX (cz K M H) to ρ (.v (.ref p))) (h : EvX (cz K M H) te ρ (.d y)) (hz : xs.length ≤ 1000000)
    (k : ∀ H', Same (hid M H) (hid M H') → Gr [p] H H' → Sta K M H' σ ρ → ML M H' p (xs ++ [y]) → D.nx σ H') : tDrop (tBM K' "list" rAppend to (tCons te tNil)) D σ H :=
  q_app (tz := tNext) s m ho h hz k
/-- p.extend(e) -/
theorem q_ext {K' : PySem.W.Frag} {to : TE} {p : Addr} {xs ys : List PyData} (s : Sta K M H σ ρ) (m : ML M H p xs) (ho : EvX (cz K M H) to ρ (.v (.ref p))) (h : EvX (cz K M H) te ρ (.d (.list ys))) (hz : xs.length + ys.length ≤ 1000000)
    (k : ∀ H', Same (hid M H) (hid M H') → Gr [p] H H' → Sta K M H' σ ρ → ML M H' p (xs ++ ys) → tz D σ H') : tSeq (tDrop (tBM K' "list" rExtend to (tCons te tNil))) tz D σ H :=
  ho H σ s.at _ fun v H2 s2 o2 => by
    obtain rfl : v = V.ref p := o2
    have m2 := m.same s2
    obtain ⟨_, vs, a, b⟩ := m2
    refine ⟨.inl ⟨rfl, vs, .inl (.inl a)⟩, h H2 σ (s.at.same s2) _ fun w H3 s3 o3 => ?_⟩
    have m3 := m.same (s2.trans s3)
    obtain ⟨mp, vs', a', b'⟩ := m3
    obtain ⟨q, ws, rfl, e1, e2⟩ := dq_list o3
    refine ⟨p, q, vs', ws, rfl, rfl, a', (hid_some e1).2, ?_, ?_⟩
    · rw [dqAll_len b', dqAll_len e2]; exact Nat.le_trans hz (by decide)
    · have e : hid M (upd H3 p (.lst (vs' ++ ws))) = hid M H3 := hid_upd_in mp
      refine k _ (by rw [e]; exact Same.hid (s2.trans s3)) (fun b o n e => ?_) ((s.same (s2.trans s3)).write mp) ⟨mp, _, upd_same, by rw [e]; exact dqAll_app b' e2⟩
      rw [upd_ne (by simpa using n)]; exact s3 _ _ (s2 _ _ e)
end

/-! ### defs -/
/-- a def of the module with its promise -/
def FnIs (P : Program) (w : World) (K : PySem.W.Frag) (mg : Str → Option Value) (base : Heap) (CX : CXT) (k : Nat) (x : Str) (ps : List Str) (sp : Sp) : Prop :=
  ∃ (f : Addr) (fd : FuncData), FnOk P w K mg base CX k f fd ps sp ∧ mg x = some (.ref f) ∧ PySem.W.keepIn K (.ref f) = true ∧ Binds K fd ps []
section
variable {X : Cx} {CX : CXT} {k : Nat} {x : Str} {ps : List Str} {sp : Sp} {E : XK} {p pos : Pos} {e : Expr} {es : List Expr} {t : TA}
theorem pe_callF (F : FnIs X.prog X.w X.K X.mg X.base CX k x ps sp) (hr : Room k X.A) (hx : Passes CX X E) (ha : PA X (e :: es) t) (hg : Gl X x := by rfl) (hdb : (x == ("__debug__" : Str)) = false := by decide)
    (he : starEach (e :: es) X.env = (false, eval e X.env) :: starEach es X.env := by rfl) (hpl : (backTo pos (starEach es X.env)).any (·.1) = false := by rfl) : PE X (.Call (.Name x p) (e :: es) [] pos) (tCall sp [] E t) := by
  obtain ⟨f, fd, G, hm, hk, hb⟩ := F
  exact pe_call G hr hg hm hk hb .nil hx ha hdb he hpl
end
/-- the promise of a def that changes nothing: for the arguments xs it hands back x, or raises an exception of the class C -/
def spX (K : PySem.W.Frag) (ok : List DV → DV → Prop) (bad : List DV → Value → Prop) : Sp := fun vs H Q E => ∃ M xs, Live M H ∧ Args K (hid M H) vs xs ∧
  ((∃ x, ok xs x ∧ ∀ v H', Same H H' → VOk K (hid M H') v x → Q v H') ∨ ∃ C, bad xs C ∧ ∀ H', Same H H' → E C none H')
abbrev noBad : List DV → Value → Prop := fun _ _ => False
abbrev spP (K : PySem.W.Frag) (ok : List DV → DV → Prop) : Sp := spX K ok noBad
section
variable {c : Cz} {ρ : List DV} {ta : TA} {E : XK} {ok : List DV → DV → Prop} {bad : List DV → Value → Prop}
theorem ev_call {xs : List DV} {x : DV} (ha : EvA c ta ρ xs) (h : ok xs x) : EvX c (tCall (spX c.K ok bad) [] E ta) ρ x := fun H1 σ a Q q => ha H1 σ a _ fun vs H2 s2 o2 => by
  rw [List.append_nil]
  exact ⟨c.M, xs, (a.same s2).lv, o2, .inl ⟨x, h, fun v H3 s3 o3 => q v H3 (s2.trans s3) o3⟩⟩
theorem bad_call {K : PySem.W.Frag} {M : List Addr} {H : Hp} {σ : L2.St} {xs : List DV} {C : Value} {Q : VK} (s : Sta K M H σ ρ) (ha : EvA (cz K M H) ta ρ xs) (h : bad xs C) (q : ∀ H', Same H H' → E C none H') : tCall (spX K ok bad) [] E ta σ H Q :=
  ha H σ s.at _ fun vs H2 s2 o2 => by
    rw [List.append_nil]
    exact ⟨M, xs, (s.same s2).lv, o2, .inr ⟨C, h, fun H3 s3 => q H3 (s2.trans s3)⟩⟩
end
section
variable {P : Program} {w : World} {K : PySem.W.Frag} {mg : Str → Option Value} {base : Heap}
/-- a def as the top has left it -/
structure DefAt (K : PySem.W.Frag) (x : Str) (st : Stmt) (f : Addr) : Prop where
  at_ : PySem.W.nsIn K mainGlobals x = some (some (.ref f))
  lk : ∃ (oc : Value) (od : Option Addr) (kV doc pm : Value) (an : Option Addr) (cdv ct : Value) (osl : Array (Option Value)),
    K.lookup f = some ⟨oc, od, .func (PySem.W.fnOf x x (defArgs st) (defBody st) (defScope st) .none kV doc pm an cdv ct), osl⟩ ∧ PySem.W.codeIn K cdv x = true
  kp : PySem.W.keepIn K (.ref f) = true
theorem def_mk {x : Str} {st : Stmt} {f : Addr} {od an : Option Addr} {sl : Array (Option Value)} {oc kV doc pm cd ct : Value} (a : PySem.W.nsIn K mainGlobals x = some (some (.ref f)))
    (l : K.lookup f = some ⟨oc, od, .func (PySem.W.fnOf x x (defArgs st) (defBody st) (defScope st) .none kV doc pm an cd ct), sl⟩) (c : PySem.W.codeIn K cd x = true) (k : PySem.W.keepIn K (.ref f) = true) : ∃ f, DefAt K x st f := ⟨f, a, ⟨oc, od, kV, doc, pm, an, cd, ct, sl, l, c⟩, k⟩
/-- what the top has left -/
def Left (K : PySem.W.Frag) (mg : Str → Option Value) : Prop := ∀ (x : Str) (v : Option Value), PySem.W.nsIn K mainGlobals x = some v → mg x = v
theorem okXN {x qual : Str} {st : Stmt} {f : Addr} {fd : FuncData} {N ps : List Str} {k : Nat} {sp : Sp} (F : Fun K x qual st f fd) (S : FnScope N ps (defScope st)) (len : ∀ vs H Q E, sp vs H Q E → vs.length = ps.length)
    (hbody : ∀ (cdv : Value) (A : Around) (outer : List PySem.Env) (s : Shared) (H : Hp) (vs : List V) (Q : VK) (E : XK), Room k (A.deeper (envOfC qual (defScope st) s.heap.objs.size f cdv)) → sp vs H Q E →
      ∃ t, PSs (cxOf (L2N.CX P w) P w K mg base N qual (defScope st) f cdv A outer s H E) (defBody st) t ∧ t { nx := fun _ H' => Q .non H', rt := Q } (L2.start N vs) H) : FnOk P w K mg base (L2N.CX P w) (k + 1) f fd ps sp := by
  obtain ⟨oc, od, kV, doc, pm, an, cdv, ct, osl, rfl, lk, hcd⟩ := F.ex
  exact fn_of lk hcd S len fun A outer s H vs Q E hr hsp => hbody cdv A outer s H vs Q E hr hsp
theorem passN {X : Cx} : Passes (L2N.CX X.prog X.w) X E0 := fun _ _ _ _ _ _ _ h => by
  obtain ⟨_, _, _, _, _, _, _, _, _, _, _, _, z⟩ := h
  exact z.elim
/-- around a body nothing is let out -/
theorem takesN {X : Cx} : L2N.Takes X (fun _ _ _ _ => False) := fun _ _ x => by
  obtain ⟨_, _, _, _, _, _, _, _, _, _, _, _, _, _, _, _, z⟩ := x
  exact z.elim
/-- THE RULE for a def: its body's derivation and reading -/
theorem def_ok {x : Str} {st : Stmt} {N ps : List Str} {k : Nat} {ok : List DV → DV → Prop} {bad : List DV → Value → Prop} (d : ∃ f, DefAt K x st f) (hmg : ∀ f, PySem.W.nsIn K mainGlobals x = some (some (.ref f)) → mg x = some (.ref f)) (S : FnScope N ps (defScope st))
    (hbind : ∀ (kV doc pm : Value) (an : Option Addr) (cdv ct : Value) (us : List Value), us.length = ps.length → bindArgs (PySem.W.fnOf x x (defArgs st) (defBody st) (defScope st) .none kV doc pm an cdv ct) ⟨us, []⟩ = pure (ps.zip us))
    (len : ∀ xs, ((∃ y, ok xs y) ∨ ∃ C, bad xs C) → xs.length = ps.length)
    (body : ∀ (f : Addr) (cdv : Value) (A : Around) (outer : List PySem.Env) (s : Shared) (H : Hp) (vs : List V) (E : XK), Room k (A.deeper (envOfC x (defScope st) s.heap.objs.size f cdv)) →
      ∃ t, PSs (cxOf (L2N.CX P w) P w K mg base N x (defScope st) f cdv A outer s H E) (defBody st) t ∧ ∀ (M : List Addr) (xs : List DV) (Q : VK), Sta K M H (L2.start N vs) (xs ++ List.replicate (N.length - xs.length) .z) →
        ((∃ y, ok xs y ∧ ∀ v H', Same H H' → VOk K (hid M H') v y → Q v H') ∨ ∃ C, bad xs C ∧ ∀ H', Same H H' → E C none H') → t { nx := fun _ H' => Q .non H', rt := Q } (L2.start N vs) H) :
    FnIs P w K mg base (L2N.CX P w) (k + 1) x ps (spX K ok bad) := by
  obtain ⟨f, at_, ⟨oc, od, kV, doc, pm, an, cdv, ct, osl, lk, cd⟩, kp⟩ := d
  have F := fun_mk (st := st) lk cd kp
  refine ⟨f, _, okXN F S (fun vs H Q E h => ?_) (fun cdv A outer s H vs Q E hr h => ?_), hmg f at_, kp, F.binds hbind⟩
  · obtain ⟨M, xs, _, ha, h⟩ := h
    rw [ha.len]
    exact len xs (h.elim (fun ⟨y, h, _⟩ => .inl ⟨y, h⟩) fun ⟨C, h, _⟩ => .inr ⟨C, h⟩)
  · obtain ⟨M, xs, lv, ha, h⟩ := h
    obtain ⟨t, h1, h2⟩ := body f cdv A outer s H vs E hr
    exact ⟨t, h1, h2 M xs Q ⟨lv, env_start ha⟩ h⟩
end
end TD
set_option Elab.async false
set_option linter.all false
set_option maxRecDepth 100000
set_option maxHeartbeats 400000
/-! Words that the printed terms use. -/
namespace TD
open PySem PySem.Spec PyProof.Rows L2
section
variable {X : Cx} {pos p : Pos}
theorem pe_strW {k : Str} {j : Nat} (l : List Nat) (h : k = sw l := by decide +kernel) : PE X (.Constant (.str k) j pos) (tC (.str (sw l))) := by subst h; exact pe_str
theorem pe_startsW {o e : Expr} {to te : TE} {apos : Pos} (ho : PE X o to) (he : PE X e te) (hs : starEach [e] X.env = [(false, eval e X.env)] := by rfl) (hbase : attributeBase o "startswith" X.env (eval o X.env) = eval o X.env := by rfl) (hline : (apos.endLine == pos.line) = true := by rfl) :
    PE X (.Call (.Attribute o "startswith" apos) [e] [] pos) (tM1 (fun x xs H Q => ∃ a b, x = V.str a ∧ xs = [V.str b] ∧ Q (.bl (Txt.startswith a b)) H) to te) := pe_m1 PySem.F.slot_str_startswith PySem.F.type_str_startswith mt_startswith ho he hs hbase hline
theorem ip_addU : PIp X .Add (fun x y H Q => rI0 (fun i j => .int (i + j)) x y H Q ∨ ∃ i j, x = .str i ∧ y = .str j ∧ i.length + j.length ≤ sizeLine ∧ Q (.str (i ++ j)) H) := fun pins s σ H x y v u Q I rx ry h =>
  OpR.or iop_add iop_add_str pins s σ H x y v u Q I rx ry h
/-- X(), X an own exception class without own __init__ -/
theorem pmk_own0 {C : Addr} {bmB : List Value} {B newId initId : String} {x : Str} (F : ExcBaseFacts B newId initId bmB) (q : PySem.W.excIn X.K C bmB newId = true) (gC : X.mg x = some (.ref C)) (kC : PySem.W.keepIn X.K (.ref C) = true) (r : Raises X (.ref C)) (hg : Gl X x)
    (hdb : (x == ("__debug__" : Str)) = false := by decide) : L2N.PMk X (.Call (.Name x p) [] [] pos) (fun _ H Q => Q (.ref C) none H) := by
  intro pins s σ H Q I h
  refine wpAny_Call_Name_kw (ld_glob I hg gC ?_ hdb)
  refine PySem.W.callWith_K0 I.kIn kC ?_
  show wpAny _ _ (call (.ref C) []) _ _ _
  obtain ⟨bm, N, nm, qn, bs, hdct, sn, sub, ab, col, dd, k0, k1, k2, k3, k5, mN, hC, hN, hni, T⟩ := exc_obj I.kIn q
  refine wpAny_call_exc_subT F T hC hN hni (fun h' e hm => ?_) (Nat.zero_le _)
  exact L2N.mk_of I hm r h (I.hok.gone hm.new)
end
section
variable {c : Cz} {K : PySem.W.Frag} {ρ : List DV} {te ta tb td : TE} {tt tu : TT} {i : Nat}
theorem ev_vd {x : D} (h : ρ[i]? = some (.d x)) : EvX c (tVar i) ρ (.d x) := ev_var h
theorem ev_vv {x : V} (h : ρ[i]? = some (.v x)) : EvX c (tVar i) ρ (.v x) := ev_var h
theorem ev_vk {x : List (Key × D)} (h : ρ[i]? = some (.k x)) : EvX c (tVar i) ρ (.k x) := ev_var h
theorem ev_vs {x : List Int} (h : ρ[i]? = some (.s x)) : EvX c (tVar i) ρ (.s x) := ev_var h
inductive SubX : DV → DV → DV → Prop
  | l {xs : List D} {i : Int} {y : D} (e : atI xs i = some y) : SubX (.d (.list xs)) (.d (.int i)) (.d y)
  | t {xs : List D} {i : Int} {y : D} (e : atI xs i = some y) : SubX (.d (.tuple xs)) (.d (.int i)) (.d y)
  | s {l : List Nat} {i : Int} {n : Nat} (e : atI l i = some n) (h : l.length ≤ 1000000) : SubX (.d (ds l)) (.d (.int i)) (.d (ds [n]))
  | sc {ns : List Int} {i n : Int} (e : atI ns i = some n) : SubX (.s ns) (.d (.int i)) (.d (.int n))
  | k {kvs : List (Key × D)} {x : Str} {y : D} (e : kget kvs (.inr x) = some y) : SubX (.k kvs) (.d (.str x)) (.d y)
  | ki {kvs : List (Key × D)} {x : Int} {y : D} (e : kget kvs (.inl x) = some y) : SubX (.k kvs) (.d (.int x)) (.d y)
theorem ev_sub {x y z : DV} (ha : EvX c ta ρ x) (hb : EvX c tb ρ y) (h : SubX x y z) : EvX c (tSub c.K ta tb) ρ z := by
  cases h with
  | l e => exact ev_subL ha hb e
  | t e => exact ev_subT ha hb e
  | s e h => exact ev_subS ha hb e h
  | sc e => exact ev_subSc ha hb e
  | k e => exact ev_subD ha hb e
  | ki e => exact ev_subDi ha hb e
inductive SlX : DV → Option Int → Option Int → DV → Prop
  | s {l : List Nat} {lo hi : Option Int} (h : l.length ≤ 1000000) : SlX (.d (ds l)) lo hi (.d (ds (cutL l lo hi)))
  | l {xs : List D} {lo hi : Option Int} : SlX (.d (.list xs)) lo hi (.d (.list (cutL xs lo hi)))
  | t {xs : List D} {lo hi : Option Int} : SlX (.d (.tuple xs)) lo hi (.d (.tuple (cutL xs lo hi)))
theorem ev_sl {tl' th : TO} {x y : DV} {lo hi : Option Int} (h : EvX c te ρ x) (h1 : EvO c tl' ρ lo) (h2 : EvO c th ρ hi) (hs : SlX x lo hi y) : EvX c (tSl (rSlU K) te tl' th) ρ y := by
  cases hs with
  | s hz => exact ev_slS h h1 h2 hz
  | l => exact ev_slL h h1 h2
  | t => exact ev_slT h h1 h2
/-- a <= b <= c -/
theorem ev_chain {r r' : R2} {x y z : DV} {b b' : Bool} {tc : TE} (ha : EvX c ta ρ x) (hb : EvX c tb ρ y) (hr : RX c r x y (.d (.bool b))) (hc : b = true → EvX c tc ρ z) (hr' : b = true → RX c r' y z (.d (.bool b'))) :
    EvX c (tChain r r' ta tb tc) ρ (.d (.bool (b && b'))) := fun H1 σ a Q q => ha H1 σ a _ fun u H2 s2 o2 => hb H2 σ (a.same s2) _ fun v H3 s3 o3 => by
  have a3 := (a.same s2).same s3
  refine hr H3 a3.gr a3.lv u v (o2.mono (Same.hid s3)) o3 _ fun w H4 s4 o4 => ⟨b, dq_bool o4, ?_⟩
  cases b with
  | true =>
    refine iteT (hc rfl H4 σ (a3.same s4) _ fun w' H5 s5 o5 => ?_)
    have a5 := (a3.same s4).same s5
    exact hr' rfl H5 a5.gr a5.lv v w' (o3.mono (Same.hid (s4.trans s5))) o5 _ fun w'' H6 s6 o6 => q w'' H6 (s2.trans (s3.trans (s4.trans (s5.trans s6)))) o6
  | false => exact iteF (q _ H4 (s2.trans (s3.trans s4)) (Dq.bl false))
/-- a value's truth -/
theorem eb_truB {b : Bool} (h : EvX c ta ρ (.d (.bool b))) : EvB c (fun σ H Q => ta σ H fun x H' => ∃ k, TruV K x H' k ∧ Q k H') ρ b := fun H1 σ a Q q => h H1 σ a _ fun v H2 s2 o2 => by
  obtain rfl := dq_bool o2
  exact ⟨b, rfl, q H2 s2⟩
theorem ei_listT {α : Type} {ys : List α} {enc : α → D} {tl : TE} (h : EvX c tl ρ (.d (.list (ys.map enc)))) : EvI c (iSeq K tl) ρ (ys.map fun y => .d (enc y)) := by
  have := ei_list (K := K) h
  rw [List.map_map] at this
  exact this
theorem ei_tupT {α : Type} {ys : List α} {enc : α → D} {tl : TE} (h : EvX c tl ρ (.d (.tuple (ys.map enc)))) : EvI c (iSeq K tl) ρ (ys.map fun y => .d (enc y)) := by
  have := ei_tup (K := K) h
  rw [List.map_map] at this
  exact this
inductive SeqX : DV → List IV → Prop
  | lm {α : Type} {ys : List α} {enc : α → D} : SeqX (.d (.list (ys.map enc))) (ys.map fun y => .d (enc y))
  | tm {α : Type} {ys : List α} {enc : α → D} : SeqX (.d (.tuple (ys.map enc))) (ys.map fun y => .d (enc y))
  | s {l : List Nat} : SeqX (.d (ds l)) (l.map fun n => .d (ds [n]))
  | l {xs : List D} : SeqX (.d (.list xs)) (xs.map .d)
  | t {xs : List D} : SeqX (.d (.tuple xs)) (xs.map .d)
theorem ei_seq {x : DV} {its : List IV} {tl : TE} (h : EvX c tl ρ x) (hs : SeqX x its) : EvI c (iSeq K tl) ρ its := by
  cases hs with
  | lm => exact ei_listT h
  | tm => exact ei_tupT h
  | s => exact ei_str h
  | l => exact ei_list h
  | t => exact ei_tup h
inductive ZipX : List DV → List IV → Prop
  | l {xs ys : List D} : ZipX [.d (.list xs), .d (.list ys)] ((xs.zip ys).map fun p => .pr p.1 p.2)
  | t {xs ys : List D} : ZipX [.d (.tuple xs), .d (.tuple ys)] ((xs.zip ys).map fun p => .pr p.1 p.2)
theorem ei_zip {xs : List DV} {its : List IV} {ta : TA} (h : EvA c ta ρ xs) (hs : ZipX xs its) : EvI c (RZ.iZipA K ta) ρ its := by
  cases hs with
  | l => exact ei_zipL h
  | t => exact ei_zipT h
theorem ev_lcY {wi : TI} {g : TG} {vs : List Nat} {α : Type} {its : List α} {it : α → IV} {f : α → D} {js : List Nat} {ρ' : α → List DV} (hi : EvI c wi ρ (its.map it))
    (hg : ∀ x ∈ its, GOk c.K js g (it x) (wipeD ρ vs) (ρ' x)) (hj : ∀ j ∈ js, j ∈ vs) (he : ∀ q x, x ∈ its → EvX (c.push q) te (ρ' x) (.d (f x))) (hz : its.length ≤ 1000000) :
    EvX c (tLc wi g tYes te vs) ρ (.d (.list (its.map f))) := by
  have := ev_lc (p := fun _ => true) (tt := tYes) hi hg hj (fun q x _ => eb_yes) (fun q x hx _ => he q x hx) hz
  have e : its.filter (fun _ => true) = its := by simp
  rw [e] at this
  exact this
theorem rx_sub {i j : Int} : RX c (rI0 fun i j => .int (i - j)) (.d (.int i)) (.d (.int j)) (.d (.int (i - j))) := rx_I0 (g := fun i j => i - j)
theorem rx_le {i j : Int} : RX c (rI0 fun i j => .bl (decide (i ≤ j))) (.d (.int i)) (.d (.int j)) (.d (.bool (decide (i ≤ j)))) := rx_B0 (g := fun i j => decide (i ≤ j))
theorem rx_ge {i j : Int} : RX c (rI0 fun i j => .bl (decide (j ≤ i))) (.d (.int i)) (.d (.int j)) (.d (.bool (decide (j ≤ i)))) := rx_B0 (g := fun i j => decide (j ≤ i))
end
end TD
set_option Elab.async false
set_option linter.all false
set_option maxRecDepth 100000
set_option maxHeartbeats 400000
/-! Two clauses; what dicts, sorts and extremes give. -/
namespace TD
open PySem PySem.Spec PyProof.Rows L2
/-- the names js are among vs -/
def SubJ (js vs : List Nat) : Prop := ∀ j ∈ js, j ∈ vs
theorem SubJ.mk {js vs : List Nat} (h : (js.all fun j => vs.contains j) = true) : SubJ js vs := fun j hj => by
  have := List.all_eq_true.mp h j hj
  simpa using this
/-- small enough -/
def Fits (n : Nat) : Prop := n ≤ 1000000
section
variable {c : Cz} {K : PySem.W.Frag} {ρ : List DV}
theorem ev_lcF {wi : TI} {g : TG} {tt : TT} {te : TE} {vs : List Nat} {α : Type} {its : List α} {it : α → IV} {p : α → Bool} {f : α → D} {js : List Nat} {ρ' : α → List DV} (hi : EvI c wi ρ (its.map it))
    (hg : ∀ x ∈ its, GOk c.K js g (it x) (wipeD ρ vs) (ρ' x)) (hj : SubJ js vs) (ht : ∀ q x, x ∈ its → EvB (c.push q) tt (ρ' x) (p x)) (he : ∀ q x, x ∈ its → p x = true → EvX (c.push q) te (ρ' x) (.d (f x))) (hz : Fits its.length) :
    EvX c (tLc wi g tt te vs) ρ (.d (.list ((its.filter p).map f))) := ev_lc hi hg hj ht he hz
theorem ev_lcA {wi : TI} {g : TG} {te : TE} {vs : List Nat} {α : Type} {its : List α} {it : α → IV} {f : α → D} {js : List Nat} {ρ' : α → List DV} (hi : EvI c wi ρ (its.map it))
    (hg : ∀ x ∈ its, GOk c.K js g (it x) (wipeD ρ vs) (ρ' x)) (hj : SubJ js vs) (he : ∀ q x, x ∈ its → EvX (c.push q) te (ρ' x) (.d (f x))) (hz : Fits its.length) :
    EvX c (tLc wi g tYes te vs) ρ (.d (.list (its.map f))) := ev_lcY hi hg hj he hz
theorem ev_lc2 {wi wi1 : TI} {g g1 : TG} {tt tt1 : TT} {te : TE} {vs vs1 : List Nat} {α β : Type} {its : List α} {it : α → IV} {p : α → Bool} {its2 : α → List β} {it2 : α → β → IV} {p2 : α → β → Bool} {f : α → β → D} {js js2 : List Nat} {ρ' : α → List DV} {ρ2 : α → β → List DV}
    (hi : EvI c wi ρ (its.map it)) (hg : ∀ x ∈ its, GOk c.K js g (it x) (wipeD ρ vs) (ρ' x)) (hj : SubJ js vs) (ht : ∀ q x, x ∈ its → EvB (c.push q) tt (ρ' x) (p x))
    (hi2 : ∀ q x, x ∈ its → p x = true → EvI (c.push q) wi1 (ρ' x) ((its2 x).map (it2 x)))
    (hg2 : ∀ x ∈ its, ∀ y ∈ its2 x, GOk c.K js2 g1 (it2 x y) (wipeD (ρ' x) vs1) (ρ2 x y)) (hj2 : SubJ js2 vs1)
    (ht2 : ∀ q x y, x ∈ its → y ∈ its2 x → p x = true → EvB (c.push q) tt1 (ρ2 x y) (p2 x y)) (he : ∀ q x y, x ∈ its → y ∈ its2 x → p x = true → p2 x y = true → EvX (c.push q) te (ρ2 x y) (.d (f x y)))
    (hz : Fits ((its.filter p).flatMap fun x => ((its2 x).filter (p2 x)).map (f x)).length) :
    EvX c (tLc2 wi g tt wi1 g1 tt1 te vs vs1) ρ (.d (.list ((its.filter p).flatMap fun x => ((its2 x).filter (p2 x)).map (f x)))) := fun H1 σ a Q q => hi H1 σ a _ fun J H2 s2 ok q0 hq0 => by
  have a2 := a.same s2
  have hl : (its.map it).length = its.length := List.length_map _
  generalize hF : (fun x => ((its2 x).filter (p2 x)).map (f x)) = F at *
  refine ⟨fun i m H' => m = its.length - i ∧ i ≤ its.length ∧ Same H2 H' ∧ ∃ acc, H' q0 = some (.lst acc) ∧ DqAll (hid (q0 :: c.M) H') acc (((its.take i).filter p).flatMap F), ⟨_, rfl, Nat.zero_le _, same_new hq0 _, [], upd_same, .nil⟩, ?_⟩
  rintro i m H' ⟨rfl, hi', s, acc, e1, e2⟩
  have s3 : Same (hid c.M H2) (hid (q0 :: c.M) H') := hid_new hq0 s
  have lv : Live (q0 :: c.M) H' := fun b hb => by
    rcases List.mem_cons.mp hb with rfl | hb
    · rw [e1]; exact fun z => by cases z
    · exact a2.lv.same s b hb
  by_cases hlt : i < its.length
  · refine .inr ⟨ok.go _ i H' s3 lv (by rw [hl]; exact hlt), _, fun H'' z => z, fun v H3 y => ?_⟩
    obtain ⟨s4, itv, f1, f2⟩ := ok.yld _ i H' v H3 s3 lv (by rw [hl]; exact hlt) y
    obtain ⟨x, hx, rfl⟩ : ∃ x, its[i]? = some x ∧ it x = itv := by
      rw [List.getElem?_map] at f1
      cases h : its[i]? with
      | none => rw [h] at f1; cases f1
      | some x => rw [h] at f1; exact ⟨x, rfl, Option.some.inj f1⟩
    have hmem : x ∈ its := List.mem_of_getElem? hx
    have hk := filter_take_succ (p := p) hx
    have A3 : Env c.K (hid (q0 :: c.M) H3) (wipe σ vs) (wipeD ρ vs) := ((a2.env.mono s3).mono (Same.hid s4)).wipe vs
    refine hg x hmem (q0 :: c.M) H3 (wipe σ vs) v _ A3 f2 fun σ' e' w' => ⟨?_, ?_⟩
    · rw [w' vs hj]; exact wipe_wipe fun j hj => hj
    · have at3 : At (c.push q0) H3 σ' (ρ' x) := ⟨a2.gr.trans (Same.gr (s.trans s4)), lv.same s4, e'⟩
      refine ht q0 x hmem H3 σ' at3 _ fun H4 s5 => ?_
      refine ite2 (fun hp => ?_) (fun hp => ?_)
      · have at4 := at3.same s5
        refine hi2 q0 x hmem hp H4 σ' at4 _ fun J1 H5 s6 ok1 => ?_
        have at5 := at4.same s6
        have hl2 : ((its2 x).map (it2 x)).length = (its2 x).length := List.length_map _
        have sh5 := Same.hid (M := q0 :: c.M) (s4.trans (s5.trans s6))
        have s25 : Same H2 H5 := s.trans (s4.trans (s5.trans s6))
        have e5 : H5 q0 = some (.lst acc) := s6 _ _ (s5 _ _ (s4 _ _ e1))
        refine ⟨fun j k Hc => k = (its2 x).length - j ∧ j ≤ (its2 x).length ∧ Same H2 Hc ∧ Gr [q0] H5 Hc ∧ ∃ acc, Hc q0 = some (.lst acc) ∧ DqAll (hid (q0 :: c.M) Hc) acc (((its.take i).filter p).flatMap F ++ (((its2 x).take j).filter (p2 x)).map (f x)),
          ⟨_, rfl, Nat.zero_le _, s25, Gr.refl _ _, acc, e5, by simpa using dqAll_mono sh5 _ _ e2⟩, ?_⟩
        rintro j k Hc ⟨rfl, hj', sc, gc, bcc, c1, c2⟩
        have sh : Same (hid (q0 :: c.M) H5) (hid (q0 :: c.M) Hc) := Gr.hid gc (by intro b hb; simp at hb; rw [hb]; exact List.mem_cons_self)
        have lvc : Live (q0 :: c.M) Hc := fun b hb => by
          rcases List.mem_cons.mp hb with rfl | hb
          · rw [c1]; exact fun z => by cases z
          · exact a2.lv.same sc b hb
        by_cases hlt2 : j < (its2 x).length
        · refine .inr ⟨ok1.go _ j Hc sh lvc (by rw [hl2]; exact hlt2), _, fun H'' z => z, fun v2 H6 y2 => ?_⟩
          obtain ⟨s7, itv2, f3, f4⟩ := ok1.yld _ j Hc v2 H6 sh lvc (by rw [hl2]; exact hlt2) y2
          obtain ⟨y, hy, rfl⟩ : ∃ y, (its2 x)[j]? = some y ∧ it2 x y = itv2 := by
            rw [List.getElem?_map] at f3
            cases h : (its2 x)[j]? with
            | none => rw [h] at f3; cases f3
            | some y => rw [h] at f3; exact ⟨y, rfl, Option.some.inj f3⟩
          have hmem2 : y ∈ its2 x := List.mem_of_getElem? hy
          have hk2 := filter_take_succ (p := p2 x) hy
          have A6 : Env c.K (hid (q0 :: c.M) H6) (wipe σ' vs1) (wipeD (ρ' x) vs1) := ((at5.env.mono sh).mono (Same.hid s7)).wipe vs1
          refine hg2 x hmem y hmem2 (q0 :: c.M) H6 (wipe σ' vs1) v2 _ A6 f4 fun σ2 e2' w2' => ⟨?_, ?_⟩
          · rw [w2' vs1 hj2]; exact wipe_wipe fun j hj => hj
          · have at6 : At (c.push q0) H6 σ2 (ρ2 x y) := ⟨a2.gr.trans (Same.gr (sc.trans s7)), lvc.same s7, e2'⟩
            refine ht2 q0 x y hmem hmem2 hp H6 σ2 at6 _ fun H7 s8 => ?_
            refine ite2 (fun hp2 => ?_) (fun hp2 => ?_)
            · refine he q0 x y hmem hmem2 hp hp2 H7 σ2 (at6.same s8) _ fun w H8 s9 o9 => ?_
              have e8 : H8 q0 = some (.lst bcc) := s9 _ _ (s8 _ _ (s7 _ _ c1))
              have sh8 := Same.hid (M := q0 :: c.M) (s7.trans (s8.trans s9))
              have up : Same (hid (q0 :: c.M) H8) (hid (q0 :: c.M) (upd H8 q0 (.lst (bcc ++ [w])))) := fun b o eb => by
                obtain ⟨h1, h2⟩ := hid_some eb
                rw [hid_out h1, upd_ne fun z => h1 (by rw [z]; exact List.mem_cons_self)]; exact h2
              refine ⟨bcc, e8, ?_, (its2 x).length - (j + 1), by omega, rfl, hlt2, fun b o eb => ?_, fun b o nb eb => ?_, bcc ++ [w], upd_same, ?_⟩
              · have hx2 : its.filter p = (its.take i).filter p ++ x :: ((its.drop (i + 1)).filter p) := by
                  conv => lhs; rw [← List.take_append_drop (i + 1) its]
                  rw [List.filter_append, hk, if_pos hp, List.append_assoc]; rfl
                have hy2 : (its2 x).filter (p2 x) = ((its2 x).take j).filter (p2 x) ++ (((its2 x).drop j).filter (p2 x)) := by
                  conv => lhs; rw [← List.take_append_drop j (its2 x)]
                  rw [List.filter_append]
                have hFx : F x = ((its2 x).filter (p2 x)).map (f x) := by rw [← hF]
                have : bcc.length ≤ ((its.filter p).flatMap F).length := by
                  rw [dqAll_len c2, hx2, List.flatMap_append, List.flatMap_cons, hFx, hy2]
                  simp only [List.length_append, List.length_map]
                  omega
                exact Nat.lt_of_le_of_lt (Nat.le_trans this hz) (by decide)
              · rw [upd_ne (ne_of_none eb hq0)]; exact s9 _ _ (s8 _ _ (s7 _ _ (sc _ _ eb)))
              · rw [upd_ne (by simpa using nb)]; exact s9 _ _ (s8 _ _ (s7 _ _ (gc _ _ nb eb)))
              · rw [hk2, if_pos hp2, List.map_append, ← List.append_assoc]
                exact dqAll_app (dqAll_mono up _ _ (dqAll_mono sh8 _ _ c2)) (.cons (dq_mono up _ _ o9) .nil)
            · have hp' : p2 x y = false := Bool.eq_false_iff.mpr hp2
              refine ⟨(its2 x).length - (j + 1), by omega, rfl, hlt2, sc.trans (s7.trans s8), fun b o nb eb => s8 _ _ (s7 _ _ (gc _ _ nb eb)), bcc, s8 _ _ (s7 _ _ c1), ?_⟩
              rw [hk2, if_neg hp2, List.append_nil]
              exact dqAll_mono (Same.hid (s7.trans s8)) _ _ c2
        · have e : j = (its2 x).length := by omega
          subst e
          refine .inl ⟨ok1.stop _ _ Hc sh lvc (by rw [hl2]; exact Nat.le_refl _), its.length - (i + 1), by omega, rfl, hlt, sc, bcc, c1, ?_⟩
          rw [List.take_length] at c2
          rw [hk, if_pos hp, List.flatMap_append]
          have e6 : [x].flatMap F = ((its2 x).filter (p2 x)).map (f x) := by rw [← hF]; simp
          rw [e6]; exact c2
      · refine ⟨its.length - (i + 1), by omega, rfl, hlt, s.trans (s4.trans s5), acc, s5 _ _ (s4 _ _ e1), ?_⟩
        rw [hk, if_neg hp, List.append_nil]
        exact dqAll_mono (Same.hid (s4.trans s5)) _ _ e2
  · have e : i = its.length := by omega
    subst e
    refine .inl ⟨ok.stop _ _ H' s3 lv (by rw [hl]; exact Nat.le_refl _), q _ H' (s2.trans s) ?_⟩
    rw [List.take_length] at e2
    have hn : q0 ∉ c.M := fun z => by have := a2.lv q0 z; exact this hq0
    exact .lst (by show hid c.M H' q0 = _; rw [hid_out hn]; exact e1) (dqAll_mono hid_cons _ _ e2)
theorem ev_lc2A {wi wi1 : TI} {g g1 : TG} {te : TE} {vs vs1 : List Nat} {α β : Type} {its : List α} {it : α → IV} {its2 : α → List β} {it2 : α → β → IV} {f : α → β → D} {js js2 : List Nat} {ρ' : α → List DV} {ρ2 : α → β → List DV}
    (hi : EvI c wi ρ (its.map it)) (hg : ∀ x ∈ its, GOk c.K js g (it x) (wipeD ρ vs) (ρ' x)) (hj : SubJ js vs)
    (hi2 : ∀ q x, x ∈ its → EvI (c.push q) wi1 (ρ' x) ((its2 x).map (it2 x)))
    (hg2 : ∀ x ∈ its, ∀ y ∈ its2 x, GOk c.K js2 g1 (it2 x y) (wipeD (ρ' x) vs1) (ρ2 x y)) (hj2 : SubJ js2 vs1)
    (he : ∀ q x y, x ∈ its → y ∈ its2 x → EvX (c.push q) te (ρ2 x y) (.d (f x y)))
    (hz : Fits (its.flatMap fun x => (its2 x).map (f x)).length) :
    EvX c (tLc2 wi g tYes wi1 g1 tYes te vs vs1) ρ (.d (.list (its.flatMap fun x => (its2 x).map (f x)))) := by
  have e : its.filter (fun _ => true) = its := by simp
  have e2 : ∀ x, (its2 x).filter (fun _ => true) = its2 x := fun x => by simp
  have := ev_lc2 (p := fun _ => true) (tt := tYes) (p2 := fun _ _ => true) (tt1 := tYes) hi hg hj (fun q x _ => eb_yes) (fun q x hx _ => hi2 q x hx) hg2 hj2 (fun q x y _ _ _ => eb_yes) (fun q x y hx hy _ _ => he q x y hx hy) (by rw [e]; simp only [e2]; exact hz)
  rw [e] at this
  simp only [e2] at this
  exact this
end
end TD
set_option Elab.async false
set_option linter.all false
set_option maxRecDepth 100000
set_option maxHeartbeats 400000
/-! Plain schemes: what the program is to compute, in plain Lean. -/
namespace TP
open PySem TD L2
abbrev W := List Nat
abbrev Sc := List (W × W)
abbrev encP (p : W × W) : D := .tuple [ds p.1, ds p.2]
abbrev encS (s : Sc) : D := .tuple (s.map encP)
abbrev encW (l : List W) : D := .list (l.map ds)
abbrev encO : Option W → D
  | none => .none
  | some w => ds w
def lowers : W := [97, 98, 99, 100, 101, 102, 103, 104, 105, 106, 107, 108, 109, 110, 111, 112, 113, 114, 115, 116, 117, 118, 119, 120, 121, 122]
mutual
def small : D → Prop
  | .str x => x.length ≤ 1000000
  | .list xs => xs.length ≤ 1000000 ∧ smallAll xs
  | .tuple xs => xs.length ≤ 1000000 ∧ smallAll xs
  | _ => True
def smallAll : List D → Prop
  | [] => True
  | x :: xs => small x ∧ smallAll xs
end
theorem smallAll_mem : ∀ {xs : List D} {x : D}, smallAll xs → x ∈ xs → small x
  | _ :: _, _, h, m => by
    rcases List.mem_cons.mp m with rfl | m
    · exact h.1
    · exact smallAll_mem h.2 m
theorem smallAll_of : ∀ {xs : List D}, (∀ x ∈ xs, small x) → smallAll xs
  | [], _ => trivial
  | x :: _, h => ⟨h x List.mem_cons_self, smallAll_of fun y m => h y (List.mem_cons_of_mem _ m)⟩
theorem small_ds {w : W} (h : w.length ≤ 1000000) : small (ds w) := by show (sw w).length ≤ _; rw [sw_len]; exact h
def isStr (v : D) (l m : Int) (p : Nat → Bool) : Bool := match v with
  | .str x => decide (l ≤ ((tl x).length : Int)) && decide (((tl x).length : Int) ≤ m) && (tl x).all p
  | _ => false
def low (c : Nat) : Bool := decide (c ∈ lowers)
def isEntry : D → Bool
  | .tuple [a, b] => isStr a 1 3 low && isStr b 1 3 low
  | _ => false
def srcD : D → W
  | .tuple (.str a :: _) => tl a
  | _ => []
def ascending : List W → Bool
  | a :: b :: r => decide (a < b) && ascending (b :: r)
  | _ => true
def lettersIn (S : List W) : Bool := S.all fun s => s.all fun c => decide ([c] ∈ S)
def isScheme : D → Bool
  | .tuple xs => decide (1 ≤ (xs.length : Int)) && decide ((xs.length : Int) ≤ 10) && xs.all isEntry && ascending (xs.map srcD) && lettersIn (xs.map srcD)
  | _ => false
theorem isEntry_iff {v : D} : isEntry v = true ↔ ∃ p : W × W, v = encP p ∧ 1 ≤ p.1.length ∧ p.1.length ≤ 3 ∧ 1 ≤ p.2.length ∧ p.2.length ≤ 3 ∧ p.1.all low = true ∧ p.2.all low = true := by
  constructor
  · intro h
    unfold isEntry at h
    split at h
    · rename_i a b
      rw [Bool.and_eq_true] at h
      obtain ⟨h1, h2⟩ := h
      unfold isStr at h1 h2
      split at h1
      · split at h2
        · rename_i x _ y
          simp only [Bool.and_eq_true, decide_eq_true_eq] at h1 h2
          refine ⟨(tl x, tl y), by rw [show encP (tl x, tl y) = .tuple [.str (sw (tl x)), .str (sw (tl y))] from rfl, sw_tl, sw_tl], ?_⟩
          refine ⟨?_, ?_, ?_, ?_, h1.2, h2.2⟩ <;> (simp only []; omega)
        · cases h2
      · cases h1
    · cases h
  · rintro ⟨p, rfl, h1, h2, h3, h4, h5, h6⟩
    show (isStr (ds p.1) 1 3 low && isStr (ds p.2) 1 3 low) = true
    unfold isStr
    simp only [tl_sw, Bool.and_eq_true, decide_eq_true_eq]
    refine ⟨⟨⟨?_, ?_⟩, h5⟩, ⟨⟨?_, ?_⟩, h6⟩⟩ <;> omega
/-- a scheme -/
structure Scheme (s : Sc) : Prop where
  one : 1 ≤ s.length
  ten : s.length ≤ 10
  src1 : ∀ p ∈ s, 1 ≤ p.1.length ∧ p.1.length ≤ 3
  tgt1 : ∀ p ∈ s, 1 ≤ p.2.length ∧ p.2.length ≤ 3
  src2 : ∀ p ∈ s, p.1.all low = true
  tgt2 : ∀ p ∈ s, p.2.all low = true
  asc : ascending (s.map (·.1)) = true
  lets : lettersIn (s.map (·.1)) = true
theorem srcD_enc (p : W × W) : srcD (encP p) = p.1 := tl_sw p.1
theorem all_entry {xs : List D} (h : xs.all isEntry = true) : ∃ s : Sc, xs = s.map encP := by
  induction xs with
  | nil => exact ⟨[], rfl⟩
  | cons x xs ih =>
    rw [List.all_cons, Bool.and_eq_true] at h
    obtain ⟨s, hs⟩ := ih h.2
    obtain ⟨p, hp, _⟩ := isEntry_iff.mp h.1
    exact ⟨p :: s, by rw [hp, hs]; rfl⟩
theorem map_src (s : Sc) : (s.map encP).map srcD = s.map (·.1) := by
  rw [List.map_map]; apply List.map_congr_left; intro p _; exact srcD_enc p
theorem isScheme_iff {v : D} : isScheme v = true ↔ ∃ s : Sc, v = encS s ∧ Scheme s := by
  constructor
  · intro h
    unfold isScheme at h
    split at h
    · rename_i xs
      simp only [Bool.and_eq_true, decide_eq_true_eq] at h
      obtain ⟨⟨⟨⟨h1, h2⟩, h3⟩, h4⟩, h5⟩ := h
      obtain ⟨s, rfl⟩ := all_entry h3
      rw [map_src] at h4 h5
      have hm : ∀ p ∈ s, 1 ≤ p.1.length ∧ p.1.length ≤ 3 ∧ 1 ≤ p.2.length ∧ p.2.length ≤ 3 ∧ p.1.all low = true ∧ p.2.all low = true := fun p hp => by
        have := List.all_eq_true.mp h3 (encP p) (List.mem_map_of_mem hp)
        obtain ⟨q, e, g⟩ := isEntry_iff.mp this
        have e1 := congrArg (fun | PyData.tuple [.str a, .str b] => (tl a, tl b) | _ => ([], [])) e
        simp only [tl_sw] at e1
        have : p = q := by cases p; cases q; exact e1
        rw [this]; exact g
      rw [List.length_map] at h1 h2
      exact ⟨s, rfl, by omega, by omega, fun p hp => ⟨(hm p hp).1, (hm p hp).2.1⟩, fun p hp => ⟨(hm p hp).2.2.1, (hm p hp).2.2.2.1⟩, fun p hp => (hm p hp).2.2.2.2.1, fun p hp => (hm p hp).2.2.2.2.2, h4, h5⟩
    · cases h
  · rintro ⟨s, rfl, h⟩
    show (decide (1 ≤ ((s.map encP).length : Int)) && decide (((s.map encP).length : Int) ≤ 10) && (s.map encP).all isEntry && ascending ((s.map encP).map srcD) && lettersIn ((s.map encP).map srcD)) = true
    rw [map_src, h.asc, h.lets, List.length_map]
    have := h.one
    have := h.ten
    simp only [Bool.and_eq_true, decide_eq_true_eq, and_true]
    refine ⟨⟨by omega, by omega⟩, List.all_eq_true.mpr fun x hx => ?_⟩
    obtain ⟨p, hp, rfl⟩ := List.mem_map.mp hx
    exact isEntry_iff.mpr ⟨p, rfl, (h.src1 p hp).1, (h.src1 p hp).2, (h.tgt1 p hp).1, (h.tgt1 p hp).2, h.src2 p hp, h.tgt2 p hp⟩
/-! tables, longest, split, mapped -/
abbrev Tb := List (W × W)
def get (t : Tb) (k : W) : Option W := (t.find? fun p => decide (p.1 = k)).map (·.2)
abbrev encT (t : Tb) : List (Key × D) := t.map fun p => (Sum.inr (sw p.1), ds p.2)
def longestN (t : Tb) (x : W) : Nat → Option W
  | 0 => none
  | n + 1 => if (get t (x.take (n + 1))).isSome then some (x.take (n + 1)) else longestN t x n
def longest (t : Tb) (x : W) : Option W := longestN t x (min 3 x.length)
theorem longestN_le {t : Tb} {x k : W} : ∀ {n : Nat}, longestN t x n = some k → n ≤ x.length → ∃ m, 1 ≤ m ∧ m ≤ n ∧ k = x.take m ∧ (get t k).isSome = true
  | 0, h, _ => by cases h
  | n + 1, h, hn => by
    unfold longestN at h
    split at h
    · rename_i g
      cases h
      exact ⟨n + 1, by omega, by omega, rfl, g⟩
    · obtain ⟨m, h1, h2, h3⟩ := longestN_le h (by omega)
      exact ⟨m, h1, by omega, h3⟩
theorem longest_len {t : Tb} {x k : W} (h : longest t x = some k) : 1 ≤ k.length ∧ k.length ≤ x.length ∧ k.length ≤ 3 ∧ k = x.take k.length ∧ (get t k).isSome = true := by
  obtain ⟨m, h1, h2, h3, h4⟩ := longestN_le h (Nat.min_le_right _ _)
  have e : k.length = m := by rw [h3, List.length_take]; omega
  rw [e]
  exact ⟨h1, by omega, by omega, h3, h4⟩
def split (t : Tb) (x : W) : Option (List W) :=
  if h : x = [] then some [] else
    match e : longest t x with
    | none => none
    | some k => (split t (x.drop k.length)).map (k :: ·)
termination_by x.length
decreasing_by
  have := longest_len e
  rw [List.length_drop]
  omega
theorem split_nil {t : Tb} : split t [] = some [] := by unfold split; simp
theorem split_none {t : Tb} {x : W} (hx : x ≠ []) (e : longest t x = none) : split t x = none := by
  rw [split, dif_neg hx]
  split
  · rfl
  · rename_i k e2; rw [e] at e2; cases e2
theorem split_some {t : Tb} {x k : W} (hx : x ≠ []) (e : longest t x = some k) : split t x = (split t (x.drop k.length)).map (k :: ·) := by
  rw [split, dif_neg hx]
  split
  · rename_i e2; rw [e] at e2; cases e2
  · rename_i k2 e2; rw [e] at e2; cases e2; rfl
def val (t : Tb) (k : W) : W := (get t k).getD []
def mapped (t : Tb) (x : W) : Option W := (split t x).map fun ps => (ps.map (val t)).flatten
theorem split_mem {t : Tb} : ∀ (n : Nat) {x : W} {ps : List W}, x.length ≤ n → split t x = some ps → ∀ k ∈ ps, (get t k).isSome = true ∧ 1 ≤ k.length
  | n, x, ps, hn, h, k, hk => by
    by_cases hx : x = []
    · subst hx; rw [split_nil] at h; cases h; simp at hk
    · cases e : longest t x with
      | none => rw [split_none hx e] at h; cases h
      | some q =>
        rw [split_some hx e] at h
        obtain ⟨r, hr, rfl⟩ := Option.map_eq_some_iff.mp h
        have l := longest_len e
        rcases List.mem_cons.mp hk with rfl | hk
        · exact ⟨l.2.2.2.2, l.1⟩
        · cases n with
          | zero => omega
          | succ n => exact split_mem n (by rw [List.length_drop]; omega) hr k hk
theorem split_len {t : Tb} : ∀ (n : Nat) {x : W} {ps : List W}, x.length ≤ n → split t x = some ps → ps.length ≤ x.length ∧ ps.flatten = x
  | n, x, ps, hn, h => by
    by_cases hx : x = []
    · subst hx; rw [split_nil] at h; cases h; simp
    · cases e : longest t x with
      | none => rw [split_none hx e] at h; cases h
      | some q =>
        rw [split_some hx e] at h
        obtain ⟨r, hr, rfl⟩ := Option.map_eq_some_iff.mp h
        have l := longest_len e
        cases n with
        | zero => omega
        | succ n =>
          have := split_len n (by rw [List.length_drop]; omega) hr
          rw [List.length_drop] at this
          refine ⟨by rw [List.length_cons]; omega, ?_⟩
          rw [List.flatten_cons, this.2]
          have e2 := l.2.2.2.1
          conv => lhs; lhs; rw [e2]
          exact List.take_append_drop _ _
/-- the tables of a scheme -/
def put (t : Tb) (k v : W) : Tb := if (t.any fun p => decide (p.1 = k)) = true then t.map (fun p => if p.1 = k then (p.1, v) else p) else t ++ [(k, v)]
def writeT (s : Sc) : Tb := s.foldl (fun t p => put t p.1 p.2) []
def setd (t : Tb) (k v : W) : Tb := if (get t k).isSome then t else t ++ [(k, v)]
def readT (s : Sc) : Tb := s.foldl (fun t p => setd t p.2 p.1) []
theorem key_inj {a b : W} : ((Sum.inr (sw a) : Key) = .inr (sw b)) ↔ a = b := ⟨fun h => sw_inj (Sum.inr.inj h), fun h => by rw [h]⟩
theorem kget_enc (t : Tb) (k : W) : kget (encT t) (Sum.inr (sw k)) = (get t k).map ds := by
  unfold kget get encT
  induction t with
  | nil => rfl
  | cons p t ih =>
    rw [List.map_cons, List.find?_cons, List.find?_cons]
    have e : (decide ((Sum.inr (sw p.1) : Key) = .inr (sw k))) = decide (p.1 = k) := decide_eq_decide.mpr key_inj
    rw [e]
    cases decide (p.1 = k) with
    | true => rfl
    | false => exact ih
theorem kput_enc (t : Tb) (k v : W) : kput (encT t) (Sum.inr (sw k)) (ds v) = encT (put t k v) := by
  unfold kput put
  have e : ((encT t).any fun kv => decide (kv.1 = (Sum.inr (sw k) : Key))) = t.any fun p => decide (p.1 = k) := by
    rw [List.any_map]; congr 1; funext p; exact decide_eq_decide.mpr key_inj
  rw [e]
  split
  · show ((t.map _).map _) = (t.map _).map _
    rw [List.map_map, List.map_map]
    apply List.map_congr_left
    intro p _
    show (if (Sum.inr (sw p.1) : Key) = .inr (sw k) then _ else _) = _
    by_cases q : p.1 = k
    · have q' := key_inj.mpr q
      simp [q]
    · have q' : ¬ ((Sum.inr (sw p.1) : Key) = .inr (sw k)) := fun z => q (key_inj.mp z)
      rw [if_neg q']
      simp [q]
  · show (t.map _) ++ _ = (t ++ _).map _
    rw [List.map_append]; rfl
theorem kmerge_enc (t : Tb) (s : Sc) : kmerge (encT t) (s.map fun p => ((Sum.inr (sw p.1) : Key), ds p.2)) = encT (s.foldl (fun t p => put t p.1 p.2) t) := by
  unfold kmerge
  induction s generalizing t with
  | nil => rfl
  | cons p s ih =>
    rw [List.map_cons, List.foldl_cons, List.foldl_cons, ← ih (put t p.1 p.2), ← kput_enc]
theorem encS_pairs (s : Sc) : encS s = .tuple ((s.map fun p => ((Sum.inr (sw p.1) : Key), ds p.2)).map pairD) := by
  rw [List.map_map]; rfl
end TP
namespace TP
open PySem TD L2
def letters (s : Sc) : List W := (s.filter fun p => decide (p.1.length = 1)).map (·.1)
def isWord (s : Sc) (v : D) : Bool := isStr v 0 40 fun c => decide ([c] ∈ letters s)
def isText (v : D) : Bool := isStr v 0 40 low
theorem Scheme.small {s : Sc} (h : Scheme s) : small (encS s) := by
  refine ⟨by rw [List.length_map]; have := h.ten; omega, smallAll_of fun x hx => ?_⟩
  obtain ⟨p, hp, rfl⟩ := List.mem_map.mp hx
  refine ⟨by show 2 ≤ _; decide, ⟨small_ds (by have := h.src1 p hp; omega), small_ds (by have := h.tgt1 p hp; omega), trivial⟩⟩
end TP
namespace TP
open PySem TD L2
theorem encP_inj {p q : W × W} (e : encP p = encP q) : p = q := by
  have e1 := congrArg (fun | PyData.tuple [.str a, .str b] => (tl a, tl b) | _ => ([], [])) e
  simp only [tl_sw] at e1
  cases p; cases q; exact e1
theorem all_asc (S : List W) : ((S.zip S.tail).all fun x => decide (x.1 < x.2)) = ascending S := by
  induction S with
  | nil => rfl
  | cons a S ih =>
    cases S with
    | nil => rfl
    | cons b S =>
      show (decide (a < b) && (((b :: S).zip S).all fun x => decide (x.1 < x.2))) = (decide (a < b) && ascending (b :: S))
      rw [← ih]; rfl
end TP
namespace TP
open PySem TD L2
theorem isScheme_tup (xs : List D) : isScheme (.tuple xs) = (decide (1 ≤ (xs.length : Int)) && decide ((xs.length : Int) ≤ 10) && xs.all isEntry && ascending (xs.map srcD) && lettersIn (xs.map srcD)) := rfl
theorem all_lets (S : List W) : ((S.flatMap fun s => s.map fun c => decide ([c] ∈ S)).all id) = lettersIn S := by
  unfold lettersIn
  rw [List.all_flatMap]
  congr 1
  funext s
  rw [List.all_map]; rfl
end TP
namespace TP
open PySem TD L2
theorem sum_le {l : List Nat} {b : Nat} (h : ∀ x ∈ l, x ≤ b) : l.sum ≤ l.length * b := by
  induction l with
  | nil => simp
  | cons a l ih =>
    have := ih fun x hx => h x (List.mem_cons_of_mem _ hx)
    have := h a List.mem_cons_self
    rw [List.sum_cons, List.length_cons, Nat.add_mul]; omega
theorem flat_le {l : List W} {b : Nat} (h : ∀ x ∈ l, x.length ≤ b) : l.flatten.length ≤ l.length * b := by
  rw [List.length_flatten]
  have := sum_le (l := l.map List.length) (b := b) fun x hx => by
    obtain ⟨y, hy, rfl⟩ := List.mem_map.mp hx
    exact h y hy
  rwa [List.length_map] at this
end TP
set_option Elab.async false
set_option linter.all false
set_option maxRecDepth 100000
set_option maxHeartbeats 400000
/-! Exceptions by name, typed sequences. -/
namespace TD
open PySem PySem.Spec PyProof.Rows L2 TP
def xa (mg : Str → Option Value) (x : Str) : Addr := match mg x with
  | some (.ref a) => a
  | _ => 0
/-- an own exception class of the module -/
structure ExcT (K : PySem.W.Frag) (mg : Str → Option Value) (x : Str) : Prop where
  g : mg x = some (.ref (xa mg x))
  q : PySem.W.excIn K (xa mg x) [.type "ValueError", .type "Exception", .type "BaseException", .type "object"] "ValueError.__new__" = true
  k : PySem.W.keepIn K (.ref (xa mg x)) = true
  b : PySem.W.subIn K (.ref (xa mg x)) (.type "BaseException") = some true
  t : PySem.W.typeIn K (.ref (xa mg x)) = some (.type "type")
  i : PySem.W.isClsIn K (xa mg x) = true
/-- what "except y" says of an x -/
theorem ExcT.exm {K : PySem.W.Frag} {mg : Str → Option Value} {x y : Str} {b : Bool} (T : ExcT K mg x) (U : ExcT K mg y) (h4 : PySem.W.subIn K (.ref (xa mg x)) (.ref (xa mg y)) = some b) : PySem.W.exmOne K (.ref (xa mg x)) (.ref (xa mg y)) = some b := by
  have e1 : (PySem.W.subIn K (.ref (xa mg y)) (.type "BaseException") == some true) = true := by rw [U.b] <;> rfl
  have e2 : ((PySem.W.clsIn K (xa mg y)).isSome && PySem.W.typeIn K (.ref (xa mg y)) == some (.type "type")) = true := by
    have h2' : (PySem.W.clsIn K (xa mg y)).isSome = true := U.i
    rw [h2', U.t] <;> rfl
  show (if (PySem.W.subIn K (.ref (xa mg y)) (.type "BaseException") == some true) = true then (if ((PySem.W.clsIn K (xa mg y)).isSome && PySem.W.typeIn K (.ref (xa mg y)) == some (.type "type")) = true then PySem.W.subIn K (.ref (xa mg x)) (.ref (xa mg y)) else none) else none) = some b
  rw [if_pos e1, if_pos e2]
  exact h4
theorem ExcT.of {K : PySem.W.Frag} {mg : Str → Option Value} {x : Str} {C : Addr} (hm : Left K mg) (a : PySem.W.nsIn K mainGlobals x = some (some (.ref C))) (q : PySem.W.excIn K C [.type "ValueError", .type "Exception", .type "BaseException", .type "object"] "ValueError.__new__" = true)
    (k : PySem.W.keepIn K (.ref C) = true) (b : PySem.W.subIn K (.ref C) (.type "BaseException") = some true) (t : PySem.W.typeIn K (.ref C) = some (.type "type")) (i : PySem.W.isClsIn K C = true) : ExcT K mg x := by
  have g := hm x _ a
  have e : xa mg x = C := by unfold xa; rw [g]
  exact ⟨by rw [e]; exact g, by rw [e]; exact q, by rw [e]; exact k, by rw [e]; exact b, by rw [e]; exact t, by rw [e]; exact i⟩
theorem xa_of {K : PySem.W.Frag} {mg : Str → Option Value} {x : Str} {C : Addr} (hm : Left K mg) (a : PySem.W.nsIn K mainGlobals x = some (some (.ref C))) : xa mg x = C := by
  unfold xa; rw [hm x _ a]
theorem ExcT.pmk {X : Cx} {x : Str} {p pos : Pos} (T : ExcT X.K X.mg x) (hg : Gl X x) (hdb : (x == ("__debug__" : Str)) = false := by decide) : L2N.PMk X (.Call (.Name x p) [] [] pos) (fun _ H Q => Q (.ref (xa X.mg x)) none H) :=
  pmk_own0 PySem.F.excBase_ValueError T.q T.g T.k (raises_own T.b T.t) hg hdb
theorem pe_gInt {X : Cx} {x : Str} {i : Int} {pos : Pos} (hg : Gl X x) (h : ∃ t, X.mg x = some (Value.int i t)) (hd : (x == ("__debug__" : Str)) = false := by decide) : PE X (.Name x pos) (tC (.int i)) := by
  obtain ⟨t, h⟩ := h; exact pe_glob hg h ⟨t, rfl⟩ hd
theorem pe_gStr {X : Cx} {x : Str} {l : List Nat} {pos : Pos} (hg : Gl X x) (h : ∃ t, X.mg x = some (Value.str (sw l) t)) (hd : (x == ("__debug__" : Str)) = false := by decide) : PE X (.Name x pos) (tC (.str (sw l))) := by
  obtain ⟨t, h⟩ := h; exact pe_glob hg h ⟨t, rfl⟩ hd
section
variable {c : Cz} {K : PySem.W.Frag} {ρ : List DV} {te ta tb td : TE} {tt tu : TT} {i : Nat}
theorem cut_map {α β : Type} (f : α → β) (xs : List α) (lo hi : Option Int) : cutL (xs.map f) lo hi = (cutL xs lo hi).map f := by
  unfold cutL
  rw [List.length_map, List.map_take, List.map_drop]
theorem SlX.lm {α : Type} {xs : List α} {enc : α → D} {lo hi : Option Int} : SlX (.d (.list (xs.map enc))) lo hi (.d (.list ((cutL xs lo hi).map enc))) := by
  rw [← cut_map]; exact .l
theorem SlX.tm {α : Type} {xs : List α} {enc : α → D} {lo hi : Option Int} : SlX (.d (.tuple (xs.map enc))) lo hi (.d (.tuple ((cutL xs lo hi).map enc))) := by
  rw [← cut_map]; exact .t
theorem zip_maps {α β γ δ : Type} (f : α → γ) (g : β → δ) (xs : List α) (ys : List β) : (xs.map f).zip (ys.map g) = (xs.zip ys).map fun p => (f p.1, g p.2) := by
  induction xs generalizing ys with
  | nil => rfl
  | cons x xs ih =>
    cases ys with
    | nil => rfl
    | cons y ys => rw [List.map_cons, List.map_cons, List.zip_cons_cons, ih, List.zip_cons_cons, List.map_cons]
theorem ZipX.lm {α β : Type} {xs : List α} {ys : List β} {f : α → D} {g : β → D} : ZipX [.d (.list (xs.map f)), .d (.list (ys.map g))] ((xs.zip ys).map fun p => .pr (f p.1) (g p.2)) := by
  have := ZipX.l (xs := xs.map f) (ys := ys.map g)
  rw [zip_maps, List.map_map] at this
  exact this
theorem ZipX.tm {α β : Type} {xs : List α} {ys : List β} {f : α → D} {g : β → D} : ZipX [.d (.tuple (xs.map f)), .d (.tuple (ys.map g))] ((xs.zip ys).map fun p => .pr (f p.1) (g p.2)) := by
  have := ZipX.t (xs := xs.map f) (ys := ys.map g)
  rw [zip_maps, List.map_map] at this
  exact this
theorem cut_tail {α : Type} (xs : List α) (h : xs.length ≤ 1000000) : cutL xs (some 1) none = xs.tail := by
  unfold cutL HT.sIx
  cases xs with
  | nil => rfl
  | cons x xs => simp
theorem rc_lenLm {α : Type} {xs : List α} {f : α → D} : RCX c (rLenU K) [.d (.list (xs.map f))] (.d (.int xs.length)) := by
  have := rc_lenL (c := c) (K := K) (xs := xs.map f); rw [List.length_map] at this; exact this
theorem rc_lenTm {α : Type} {xs : List α} {f : α → D} : RCX c (rLenU K) [.d (.tuple (xs.map f))] (.d (.int xs.length)) := by
  have := rc_lenT (c := c) (K := K) (xs := xs.map f); rw [List.length_map] at this; exact this
theorem rx_inLm {α : Type} {g : Bool → Bool} {d : D} {xs : List α} {f : α → D} (h : min (PyData.depthAll (xs.map f)) d.depth ≤ 60) : RX c (rInU g) (.d d) (.d (.list (xs.map f))) (.d (.bool (g (xs.any fun z => PyData.eqv (f z) d)))) := by
  have := rx_inList (c := c) (g := g) (d := d) (xs := xs.map f) h; rw [List.any_map] at this; exact this
theorem eqv_ds (a b : W) : PyData.eqv (ds a) (ds b) = decide (a = b) := by
  have e : PyData.eqv (ds a) (ds b) = decide (sw a = sw b) := by rw [Bool.eq_iff_iff]; simp [ds, PyData.eqv]
  rw [e]
  exact decide_eq_decide.mpr ⟨sw_inj, fun h => by rw [h]⟩
theorem any_ds (l : List W) (a : W) : (l.any fun z => PyData.eqv (ds z) (ds a)) = decide (a ∈ l) := by
  induction l with
  | nil => rfl
  | cons b l ih =>
    rw [List.any_cons, ih, eqv_ds]
    by_cases h : b = a
    · subst h; simp
    · have h' : ¬ a = b := fun z => h z.symm
      simp [h, h']
theorem rx_inW {g : Bool → Bool} {a : W} {l : List W} : RX c (rInU g) (.d (ds a)) (.d (.list (l.map ds))) (.d (.bool (g (decide (a ∈ l))))) := by
  have := rx_inLm (c := c) (g := g) (d := ds a) (xs := l) (f := ds) (Nat.le_trans (Nat.min_le_right _ _) (Nat.zero_le _))
  rw [any_ds] at this; exact this
theorem rx_eqW {a b : W} : RX c rEqQ (.d (ds a)) (.d (ds b)) (.d (.bool (decide (a = b)))) := by
  have := rx_eq (c := c) (d := ds a) (e := ds b) (Nat.le_trans (Nat.min_le_right _ _) (Nat.zero_le _))
  rw [eqv_ds] at this; exact this
theorem rx_neW {a b : W} : RX c rNeQ (.d (ds a)) (.d (ds b)) (.d (.bool (!decide (a = b)))) := by
  have := rx_ne (c := c) (d := ds a) (e := ds b) (Nat.le_trans (Nat.min_le_right _ _) (Nat.zero_le _))
  rw [eqv_ds] at this; exact this
theorem rx_eqI {a b : Int} : RX c rEqQ (.d (.int a)) (.d (.int b)) (.d (.bool (decide (a = b)))) := by
  have := rx_eq (c := c) (d := .int a) (e := .int b) (Nat.le_trans (Nat.min_le_right _ _) (Nat.zero_le _))
  have e : PyData.eqv (.int a) (.int b) = decide (a = b) := by rw [Bool.eq_iff_iff]; simp [PyData.eqv]
  rw [e] at this; exact this
theorem rx_neI {a b : Int} : RX c rNeQ (.d (.int a)) (.d (.int b)) (.d (.bool (!decide (a = b)))) := by
  have := rx_ne (c := c) (d := .int a) (e := .int b) (Nat.le_trans (Nat.min_le_right _ _) (Nat.zero_le _))
  have e : PyData.eqv (.int a) (.int b) = decide (a = b) := by rw [Bool.eq_iff_iff]; simp [PyData.eqv]
  rw [e] at this; exact this
theorem rx_inTbl {g : Bool → Bool} {t : Tb} {a : W} : RX c (rInU g) (.d (ds a)) (.k (encT t)) (.d (.bool (g (get t a).isSome))) := by
  have := rx_inDict (c := c) (g := g) (x := sw a) (kvs := encT t)
  rw [kget_enc, Option.isSome_map] at this; exact this
theorem SubX.tbl {t : Tb} {a v : W} (h : get t a = some v) : SubX (.k (encT t)) (.d (ds a)) (.d (ds v)) := .k (by rw [kget_enc, h]; rfl)
theorem ev_andF {x : Bool} (h1 : EvX c ta ρ (.d (.bool x))) (e : x = false) : EvX c (tAndV ta tb) ρ (.d (.bool false)) := EvX.is (ev_andV (b := false) h1 fun h => by rw [e] at h; cases h) (by rw [e]; rfl)
theorem ev_orT {x : Bool} (h1 : EvX c ta ρ (.d (.bool x))) (e : x = true) : EvX c (tOrV ta tb) ρ (.d (.bool true)) := EvX.is (ev_orV (b := true) h1 fun h => by rw [e] at h; cases h) (by rw [e]; rfl)
theorem eb_andF {x : Bool} (h1 : EvB c tt ρ x) (e : x = false) : EvB c (tAnd tt tu) ρ false := EvB.is (eb_and (b := false) h1 fun h => by rw [e] at h; cases h) (by rw [e]; rfl)
theorem eb_orT {x : Bool} (h1 : EvB c tt ρ x) (e : x = true) : EvB c (tOr tt tu) ρ true := EvB.is (eb_or (b := true) h1 fun h => by rw [e] at h; cases h) (by rw [e]; rfl)
theorem eo_neg {te : TE} {k : Int} (h : EvX c te ρ (.d (.int k))) : EvO c (tPart te) ρ (some k) := eo_some h
end
end TD
set_option Elab.async false
set_option linter.all false
set_option maxRecDepth 100000
set_option maxHeartbeats 400000
/-! Dicts that change, hidden. -/
namespace TD
open PySem PySem.Spec PyProof.Rows L2 TP
section
variable {K : PySem.W.Frag} {M : List Addr} {H : Hp} {σ : L2.St} {ρ : List DV} {D : Ends} {te td ty tx : TE} {tz : TS} {i : Nat}
/-- at p stands a dict of keys, hidden -/
def MK (M : List Addr) (H : Hp) (p : Addr) (kvs : List (Key × PyData)) : Prop := p ∈ M ∧ ∃ kv, H p = some (.dK kv) ∧ KD (hid M H) kv kvs
theorem MK.same {H' : Hp} {p : Addr} {xs : List (Key × PyData)} (h : MK M H p xs) (s : Same H H') : MK M H' p xs := ⟨h.1, let ⟨vs, a, b⟩ := h.2; ⟨vs, s _ _ a, b.mono (Same.hid s)⟩⟩
theorem hid_less {M' : List Addr} (hs : ∀ m ∈ M', m ∈ M) : Same (hid M H) (hid M' H) := fun c o e => by
  obtain ⟨h1, h2⟩ := hid_some e
  rw [hid_out fun z => h1 (hs c z)]; exact h2
theorem MK.data {M' : List Addr} {p : Addr} {xs : List (Key × PyData)} (h : MK M H p xs) (hs : ∀ m ∈ M', m ∈ M) (hp : p ∉ M') : VOk K (hid M' H) (.ref p) (.k xs) := by
  obtain ⟨_, vs, a, b⟩ := h
  exact ⟨p, vs, rfl, by rw [hid_out hp]; exact a, b.mono (hid_less hs)⟩
/-- p = {} -/
theorem q_newK (s : Sta K M H σ ρ) (k : ∀ p σ' H', H p = none → p ∉ M → Same (hid M H) (hid (p :: M) H') → Same H H' → Sta K (p :: M) H' σ' (ρ.set i (.v (.ref p))) → MK (p :: M) H' p [] → tz D σ' H') : tSeq (tAsg tDNewK (gName i)) tz D σ H := fun p hp => by
  have nm : p ∉ M := s.lv.new hp
  have sn := same_new hp (HO.dK [])
  have st3 := s.push (o := .dK []) hp
  exact k p _ _ hp nm (hid_new hp sn) sn (st3.set (x := .v (.ref p)) rfl) ⟨List.mem_cons_self, [], upd_same, .nil⟩
/-- a dict made by an expression, hidden from now on -/
theorem MK.hide {p : Addr} {xs : List (Key × PyData)} (s : Sta K M H σ ρ) (h : H p = some (.dK [])) : True := trivial
def kset (kvs : List (Key × PyData)) (k : Key) (v : PyData) : List (Key × PyData) := if (kget kvs k).isSome then kvs else kput kvs k v
/-- p.setdefault(e, f) -/
theorem s_setd {x : Str} {y : PyData} {p : Addr} {kvs : List (Key × PyData)} (s : Sta K M H σ ρ) (m : MK M H p kvs) (ho : EvX (cz K M H) td ρ (.v (.ref p))) (he : EvX (cz K M H) ty ρ (.d (.str x))) (hf : EvX (cz K M H) tx ρ (.d y)) (hz : kvs.length ≤ 1000000)
    (k : ∀ H', Same (hid M H) (hid M H') → Gr [p] H H' → Sta K M H' σ ρ → MK M H' p (kset kvs (.inr x) y) → D.nx σ H') : tDrop (tDSetd td ty tx) D σ H :=
  ho H σ s.at _ fun v H2 s2 o2 => by
    obtain rfl : v = V.ref p := o2
    have m2 := m.same s2
    obtain ⟨_, kv2, a, b⟩ := m2
    refine ⟨p, rfl, .inl ⟨kv2, .inl a⟩, he H2 σ (s.at.same s2) _ fun u H3 s3 o3 => hf H3 σ ((s.at.same s2).same s3) _ fun w H4 s4 o4 => ?_⟩
    have m4 := ((m.same s2).same s3).same s4
    obtain ⟨mp, kv, a4, b4⟩ := m4
    have hl : kv.length ≤ 1000000 := by rw [Paired.length b4]; exact hz
    refine ⟨kv, .inr x, a4, dq_str o3, Nat.lt_of_le_of_lt hl (by decide), fun v0 hv => ?_, fun hn => ?_⟩
    · rcases kd_get b4 (.inr x) with ⟨v1, d1, e1, e2, e3⟩ | ⟨e1, e2⟩
      · exact k H4 (Same.hid (s2.trans (s3.trans s4))) (Same.gr (s2.trans (s3.trans s4))) (((s.same s2).same s3).same s4) ⟨mp, kv, a4, by unfold kset; rw [e2]; exact b4⟩
      · rw [e1] at hv; cases hv
    · rcases kd_get b4 (.inr x) with ⟨v1, d1, e1, e2, e3⟩ | ⟨e1, e2⟩
      · rw [hn] at e1; cases e1
      · have e : hid M (upd H4 p (.dK (putK kv (.inr x) w))) = hid M H4 := hid_upd_in mp
        refine k _ (by rw [e]; exact Same.hid (s2.trans (s3.trans s4))) (fun b o n eb => ?_) ((((s.same s2).same s3).same s4).write mp) ⟨mp, _, upd_same, by rw [e]; unfold kset; rw [e2]; exact kd_put b4 _ o4⟩
        rw [upd_ne (by simpa using n)]; exact s4 _ _ (s3 _ _ (s2 _ _ eb))
/-- p[e] = f -/
theorem s_dput {x : Str} {y : PyData} {p : Addr} {kvs : List (Key × PyData)} (s : Sta K M H σ ρ) (m : MK M H p kvs) (ho : EvX (cz K M H) td ρ (.v (.ref p))) (he : EvX (cz K M H) ty ρ (.d (.str x))) (hf : EvX (cz K M H) tx ρ (.d y)) (hz : kvs.length ≤ 1000000)
    (k : ∀ H', Same (hid M H) (hid M H') → Gr [p] H H' → Sta K M H' σ ρ → MK M H' p (kput kvs (.inr x) y) → D.nx σ H') : sDPut td ty tx D σ H :=
  hf H σ s.at _ fun w H2 s2 o2 => ho H2 σ (s.at.same s2) _ fun v H3 s3 o3 => he H3 σ ((s.at.same s2).same s3) _ fun u H4 s4 o4 => by
    obtain rfl : v = V.ref p := o3
    have m4 := ((m.same s2).same s3).same s4
    obtain ⟨mp, kv, a4, b4⟩ := m4
    have hl : kv.length ≤ 1000000 := by rw [Paired.length b4]; exact hz
    have ek := dq_str o4
    subst ek
    refine ⟨p, _, rfl, DPut.k (k := Sum.inr x) a4 (Nat.lt_of_le_of_lt hl (by decide)), ?_⟩
    have e : hid M (upd H4 p (.dK (putK kv (.inr x) w))) = hid M H4 := hid_upd_in mp
    refine k _ (by rw [e]; exact Same.hid (s2.trans (s3.trans s4))) (fun b o n eb => ?_) ((((s.same s2).same s3).same s4).write mp) ⟨mp, _, upd_same, by rw [e]; exact kd_put b4 _ (dq_mono (Same.hid (s3.trans s4)) _ _ o2)⟩
    rw [upd_ne (by simpa using n)]; exact s4 _ _ (s3 _ _ (s2 _ _ eb))
theorem q_dput {x : Str} {y : PyData} {p : Addr} {kvs : List (Key × PyData)} (s : Sta K M H σ ρ) (m : MK M H p kvs) (ho : EvX (cz K M H) td ρ (.v (.ref p))) (he : EvX (cz K M H) ty ρ (.d (.str x))) (hf : EvX (cz K M H) tx ρ (.d y)) (hz : kvs.length ≤ 1000000)
    (k : ∀ H', Same (hid M H) (hid M H') → Gr [p] H H' → Sta K M H' σ ρ → MK M H' p (kput kvs (.inr x) y) → tz D σ H') : tSeq (sDPut td ty tx) tz D σ H := s_dput (D := { D with nx := tz D }) s m ho he hf hz k
/-- return of a hidden thing -/
theorem s_retV {M' : List Addr} {x : V} {y : DV} {te : TE} (s : Sta K M H σ ρ) (h : EvX (cz K M H) te ρ (.v x)) (k : ∀ H', Same H H' → VOk K (hid M' H') x y) (r : ∀ v H', Same H H' → VOk K (hid M' H') v y → D.rt v H') : tRet te D σ H := h H σ s.at _ fun v H2 s2 o2 => by
  obtain rfl : v = x := o2
  exact r v H2 s2 (k H2 s2)
/-- what was hidden within is dropped: a caller's heap stands -/
theorem same_of_hid {M' : List Addr} {H' : Hp} (h : Same (hid M H) (hid M H')) (g : Gr M H H') (n : ∀ m ∈ M, H m ≠ none → m ∈ M' ∧ H' m = H m) : True := trivial
/-- a hidden new thing at p: outside of p all stands -/
theorem gr_new {p : Addr} {H1 H2 : Hp} (hp : H p = none) (s : Same H H1) (g : Gr [p] H1 H2) : Same H H2 := fun b o e => g b o (by simp; exact ne_of_none e hp) (s b o e)
end
section
variable {c : Cz} {K : PySem.W.Frag}
theorem rc_dictS {s : Sc} : RCX c (rDictP K) [.d (encS s)] (.k (encT (writeT s))) := by
  have := rc_dictT (c := c) (K := K) (kvs := s.map fun p => ((Sum.inr (sw p.1) : Key), ds p.2))
  rw [← encS_pairs] at this
  have e := kmerge_enc [] s
  have e2 : (encT ([] : Tb)) = [] := rfl
  rw [e2] at e
  rw [e] at this
  exact this
theorem kset_enc (t : Tb) (k v : W) : kset (encT t) (.inr (sw k)) (ds v) = encT (setd t k v) := by
  unfold kset setd
  rw [kget_enc, Option.isSome_map]
  split
  · rfl
  · rename_i h
    rw [kput_enc]
    unfold put
    have : (t.any fun p => decide (p.1 = k)) = false := by
      unfold TP.get at h
      rw [Option.isSome_map] at h
      rw [List.any_eq_false]
      intro x hx he
      apply h
      rw [List.find?_isSome]
      exact ⟨x, hx, he⟩
    rw [this]; rfl
end
end TD
set_option Elab.async false
set_option linter.all false
set_option maxRecDepth 100000
set_option maxHeartbeats 400000
/-! The rules with the written part told by name. -/
namespace TD
open PySem PySem.Spec PyProof.Rows L2 TP
section
variable {X : Cx} {K : PySem.W.Frag} {e o a b : Expr} {es : List Expr} {ta tb te to : TE} {pos : Pos}
theorem CallR.k {f : Value} {r : PySem.W.Frag → List V → Hp → VK → Prop} (h : CallR X f (r X.K)) (hK : X.K = K) : CallR X f (r K) := hK ▸ h
theorem OpR.k {f : Value → Value → Sem Value} {r : PySem.W.Frag → R2} (h : OpR X f (r X.K)) (hK : X.K = K) : OpR X f (r K) := hK ▸ h
theorem SlR.k {r : PySem.W.Frag → V → Option Int → Option Int → Hp → VK → Prop} (h : SlR X (r X.K)) (hK : X.K = K) : SlR X (r K) := hK ▸ h
theorem k_sub (hu : X.A.units + 64 < cLine) (hK : X.K = K) (ha : PE X a ta) (hb : PE X b tb) (hs : PlainIx b) : PE X (.Subscript a b pos) (tSub K ta tb) := hK ▸ pe_sub hu ha hb hs
theorem ki_seq {tg : Expr} (hK : X.K = K) (h : PE X e te) : PI X tg e (iSeq K te) := hK ▸ pi_seq h
theorem ki_zip {e2 : Expr} {ta : TA} {p tpos : Pos} {elts : List Expr} {kk : Nat} (hK : X.K = K) (hg : Gl X "zip") (hm : X.mg "zip" = none) (ha : PA X [e, e2] ta)
    (hs : starEach [e, e2] X.env = (false, eval e X.env) :: starEach [e2] X.env := by rfl) (hpl : (backTo pos (starEach [e2] X.env)).any (·.1) = false := by rfl) :
    PI X (.Tuple elts kk tpos) (.Call (.Name "zip" p) [e, e2] [] pos) (RZ.iZipA K ta) := hK ▸ RZ.pi_zipA hg hm ha hs hpl
theorem kg_tup {k : Nat} {t : TGs} {n : Nat} (hK : X.K = K) (hc : X.calm = true) (h : PGs X es t) (hn : (assignEach es X.env).length = n := by rfl) (hst : (assignEach es X.env).findIdx? (·.1) = none := by rfl) : PG X (.Tuple es k pos) (gTup K n t) := hK ▸ pg_tup hc h hn hst
theorem k_join {apos : Pos} (hK : X.K = K) (ho : PE X o to) (he : PE X e te) (hs : starEach [e] X.env = [(false, eval e X.env)] := by rfl) (hbase : attributeBase o "join" X.env (eval o X.env) = eval o X.env := by rfl) (hline : (apos.endLine == pos.line) = true := by rfl) :
    PE X (.Call (.Attribute o "join" apos) [e] [] pos) (tM1 (rJoin K) to te) := hK ▸ pe_join ho he hs hbase hline
theorem k_bm {T name id : String} {r : V → List V → Hp → VK → Prop} {apos cpos : Pos} {t : TA} (hK : X.K = K) (pa : PlainAttrs T) (slot : Slot T name id) (hty : typeOf (.builtin id) = pure (.type "method_descriptor")) (hm : MtR X id r) (ho : PE X o to) (ha : PA X (e :: es) t)
    (hbase : attributeBase o name X.env (eval o X.env) = eval o X.env := by rfl)
    (hfew : ((backTo cpos (starEach (e :: es) X.env)).all (fun x => !x.1) && (backToKw cpos (keywordEach [] X.env)).all (fun x => x.1.isSome)
      && decide ((e :: es).length + ([] : List Keyword).length + (if ([] : List Keyword).isEmpty then 0 else 1) < 30)) = true := by rfl)
    (hline : (apos.endLine == cpos.line) = true := by rfl) (hs : starEach (e :: es) X.env = (false, eval e X.env) :: starEach es X.env := by rfl) (hplain : (backTo cpos (starEach es X.env)).any (·.1) = false := by rfl) :
    PE X (.Call (.Attribute o name apos) (e :: es) [] cpos) (tBM K T r to t) := hK ▸ pe_bm pa slot hty hm ho ha hbase hfew hline hs hplain
theorem k_bm0 {T name id : String} {r : V → List V → Hp → VK → Prop} {apos cpos : Pos} (hK : X.K = K) (pa : PlainAttrs T) (slot : Slot T name id) (hty : typeOf (.builtin id) = pure (.type "method_descriptor")) (hm : MtR X id r) (ho : PE X o to)
    (hbase : attributeBase o name X.env (eval o X.env) = eval o X.env := by rfl) (hline : (apos.endLine == cpos.line) = true := by rfl) : PE X (.Call (.Attribute o name apos) [] [] cpos) (tBM0 K T r to) := hK ▸ pe_bm0 pa slot hty hm ho hbase hline
theorem kt_truth (hK : X.K = K) (ha : PE X a ta) (he : ∀ whole, isTrue a X.env whole = (do let v ← whole; standAt a.pos; holding [v] (truthy v))) :
    PT X a (fun σ H Q => ta σ H fun x H' => ∃ k, TruV K x H' k ∧ Q k H') := hK ▸ pt_truth ha he
/-- list(..) of a list, a tuple, a text, a dict -/
def rListStr : List V → Hp → VK → Prop := fun xs H Q => ∃ z : Str, xs = [.str z] ∧ z.length ≤ sizeLine ∧ ∀ p, H p = none → Q (.ref p) (upd H p (.lst ((tl z).map fun c => V.str (sw [c]))))
theorem call_listStr (hc : X.calm = true) : CallR X (.type "list") rListStr := by
  intro pins s σ H xs us Q I r h
  obtain ⟨z, rfl, hz, q⟩ := h
  obtain ⟨u, rfl, t, rfl⟩ := vals1 r
  refine call_list_str (I.ok.hd hc) z t (fun h' tk acc' c' kp e it => ?_) hz
  refine ⟨.ref s.heap.objs.size, _, I.laid (t' := tk) kp (Nat.le_refl _) (show ObjOk X.prog X.w _ h' _ (.lst ((tl z).map fun c => V.str (sw [c]))) from ⟨?_, acc'.toList, c', ?_, ?_⟩), rfl, q _ (I.hok.fresh (Nat.le_refl _))⟩
  · rw [List.length_map]; exact hz
  · refine vals_of_at ?_ fun j x v h1 h2 => ?_
    · rw [List.length_map, Array.length_toList, Array.length_toList, it.1]
    · rw [Array.getElem?_toList] at h2
      obtain ⟨c, t', e1, e2⟩ := it.2 j v h2
      rw [List.getElem?_map, Array.getElem?_toList] at h1
      rw [e1] at h1
      cases h1
      exact ⟨t', e2⟩
  · rw [e]
def rListU (K : PySem.W.Frag) : List V → Hp → VK → Prop := fun xs H Q => rListOf K xs H Q ∨ rListStr xs H Q ∨ rListD xs H Q
theorem call_listU (hc : X.calm = true) : CallR X (.type "list") (rListU X.K) := CallR.or call_list_of (CallR.or (call_listStr hc) (call_list_dK hc))
end
section
variable {c : Cz} {K : PySem.W.Frag}
theorem RCX.inl {r r' : List V → Hp → VK → Prop} {xs : List DV} {z : DV} (h : RCX c r xs z) : RCX c (fun xs H Q => r xs H Q ∨ r' xs H Q) xs z := fun H1 g l vs ha Q q => .inl (h H1 g l vs ha Q q)
theorem RCX.inr {r r' : List V → Hp → VK → Prop} {xs : List DV} {z : DV} (h : RCX c r' xs z) : RCX c (fun xs H Q => r xs H Q ∨ r' xs H Q) xs z := fun H1 g l vs ha Q q => .inr (h H1 g l vs ha Q q)
theorem flat_bools {α β : Type} (xs : List α) (ys : α → List β) (g : α → β → Bool) : (xs.flatMap fun x => (ys x).map fun y => PyData.bool (g x y)) = (xs.flatMap fun x => (ys x).map (g x)).map PyData.bool := by
  rw [List.map_flatMap]; congr 1; funext x; rw [List.map_map]; rfl
theorem rc_all2 {α β : Type} {xs : List α} {ys : α → List β} {g : α → β → Bool} : RCX c (rAll K) [.d (.list (xs.flatMap fun x => (ys x).map fun y => .bool (g x y)))] (.d (.bool (xs.all fun x => (ys x).all (g x)))) := by
  have := rc_all (c := c) (K := K) (xs := xs.flatMap fun x => (ys x).map (g x)) (g := id)
  rw [List.all_flatMap] at this
  rw [flat_bools]
  have e : (fun x => ((ys x).map (g x)).all id) = fun x => (ys x).all (g x) := by funext x; rw [List.all_map]; rfl
  rw [e] at this
  exact this
theorem rc_any2 {α β : Type} {xs : List α} {ys : α → List β} {g : α → β → Bool} : RCX c (rAny K) [.d (.list (xs.flatMap fun x => (ys x).map fun y => .bool (g x y)))] (.d (.bool (xs.any fun x => (ys x).any (g x)))) := by
  have := rc_any (c := c) (K := K) (xs := xs.flatMap fun x => (ys x).map (g x)) (g := id)
  rw [List.any_flatMap] at this
  rw [flat_bools]
  have e : (fun x => ((ys x).map (g x)).any id) = fun x => (ys x).any (g x) := by funext x; rw [List.any_map]; rfl
  rw [e] at this
  exact this
theorem rc_ulL {xs : List D} : RCX c (rListU K) [.d (.list xs)] (.d (.list xs)) := RCX.inl (r' := fun xs H Q => rListStr xs H Q ∨ rListD xs H Q) rc_lstL
theorem rc_ulT {xs : List D} : RCX c (rListU K) [.d (.tuple xs)] (.d (.list xs)) := RCX.inl (r' := fun xs H Q => rListStr xs H Q ∨ rListD xs H Q) rc_lstT
theorem dqAll_chars {H : Hp} (l : List Nat) : DqAll H (l.map fun c => V.str (sw [c])) (l.map fun c => ds [c]) := by
  induction l with
  | nil => exact .nil
  | cons a l ih => exact .cons (.str _) ih
theorem rc_ulS {l : W} (h : Fits l.length) : RCX c (rListU K) [.d (ds l)] (.d (.list (l.map fun c => ds [c]))) := fun H1 g lv vs ha Q q => by
  obtain ⟨v, rfl, o⟩ := args1 ha
  obtain rfl := dq_str o
  refine .inr (.inl ⟨sw l, rfl, by rw [sw_len]; exact Nat.le_trans h (by decide), fun p hp => q _ _ (same_new hp _) ?_⟩)
  rw [tl_sw]
  exact new_lst lv hp (dqAll_chars l)
def keyD : Key → D
  | .inl i => .int i
  | .inr x => .str x
theorem kd_keys {H : Hp} {kv : List (Key × V)} {kvs : List (Key × D)} (h : KD H kv kvs) : DqAll H (kv.map fun kv => kV kv.1) (kvs.map fun kv => keyD kv.1) := by
  induction h with
  | nil => exact .nil
  | @cons p q r s hh t ih =>
    refine .cons ?_ ih
    show Dq H (kV p.1) (keyD q.1)
    rw [hh.1]
    cases q.1 with
    | inl i => exact .int i
    | inr x => exact .str x
theorem rc_ulD {kvs : List (Key × D)} : RCX c (rListU K) [.k kvs] (.d (.list (kvs.map fun kv => keyD kv.1))) := fun H1 g lv vs ha Q q => by
  obtain ⟨v, rfl, o⟩ := args1 ha
  obtain ⟨a, kv, rfl, h1, h2⟩ := o
  exact .inr (.inr ⟨a, kv, rfl, (hid_some h1).2, fun p hp => q _ _ (same_new hp _) (new_lst lv hp (kd_keys h2))⟩)
end
end TD
set_option Elab.async false
set_option linter.all false
set_option maxRecDepth 100000
set_option maxHeartbeats 400000
/-! Cuts and small helps. -/
namespace TD
open PySem PySem.Spec PyProof.Rows L2 TP
theorem EvI.is {c : Cz} {wi : TI} {ρ : List DV} {a b : List IV} (h : EvI c wi ρ a) (e : a = b) : EvI c wi ρ b := e ▸ h
theorem cut_take {α : Type} (xs : List α) (k : Int) (h : 0 ≤ k) : cutL xs none (some k) = xs.take k.toNat := by
  unfold cutL HT.sIx
  have h' : ¬ k < 0 := by omega
  simp only [h', if_false, List.drop_zero, Nat.sub_zero]
  rw [List.take_eq_take_iff]
  omega
theorem cut_drop {α : Type} (xs : List α) (k : Int) (h : 0 ≤ k) : cutL xs (some k) none = xs.drop k.toNat := by
  unfold cutL HT.sIx
  have h' : ¬ k < 0 := by omega
  simp only [h', if_false]
  rw [List.take_of_length_le (by rw [List.length_drop]; omega)]
  by_cases q : k.toNat ≤ xs.length
  · congr 1; omega
  · rw [List.drop_eq_nil_of_le (by omega), List.drop_eq_nil_of_le (by omega)]
theorem ev_neg {c : Cz} {te : TE} {ρ : List DV} {i : Int} (h : EvX c te ρ (.d (.int i))) : EvX c (tUn (rU fun i => V.int (-i)) te) ρ (.d (.int (-i))) := fun H1 σ a Q q => h H1 σ a _ fun v H2 s2 o2 => ⟨i, dq_int o2, q _ H2 s2 (Dq.int _)⟩
theorem range_get {n i j : Nat} (h : (List.range n)[i]? = some j) : i < n ∧ j = i := by
  by_cases q : i < n
  · rw [List.getElem?_range q] at h
    cases h; exact ⟨q, rfl⟩
  · rw [List.getElem?_eq_none (by rw [List.length_range]; omega)] at h; cases h
/-- a hidden list, returned -/
theorem s_retL {K : PySem.W.Frag} {M : List Addr} {H : Hp} {σ : L2.St} {ρ : List DV} {D : Ends} {te : TE} {p : Addr} {xs : List PyData} (s : Sta K (p :: M) H σ ρ) (n : p ∉ M) (m : ML (p :: M) H p xs) (h : EvX (cz K (p :: M) H) te ρ (.v (.ref p)))
    (r : ∀ v H', Same H H' → VOk K (hid M H') v (.d (.list xs)) → D.rt v H') : tRet te D σ H :=
  s_retV (M' := M) (y := .d (.list xs)) s h (fun H' s' => (m.same s').data (fun b hb => List.mem_cons_of_mem _ hb) n) r
theorem s_retK {K : PySem.W.Frag} {M : List Addr} {H : Hp} {σ : L2.St} {ρ : List DV} {D : Ends} {te : TE} {p : Addr} {xs : List (Key × PyData)} (s : Sta K (p :: M) H σ ρ) (n : p ∉ M) (m : MK (p :: M) H p xs) (h : EvX (cz K (p :: M) H) te ρ (.v (.ref p)))
    (r : ∀ v H', Same H H' → VOk K (hid M H') v (.k xs) → D.rt v H') : tRet te D σ H :=
  s_retV (M' := M) (y := .k xs) s h (fun H' s' => (m.same s').data (fun b hb => List.mem_cons_of_mem _ hb) n) r
theorem Gr.app {p : Addr} {H H1 H2 : Hp} (a : Gr [p] H H1) (b : Gr [p] H1 H2) : Gr [p] H H2 := a.trans b
theorem Gr.appS {p : Addr} {H H1 H2 : Hp} (a : Gr [p] H H1) (b : Same H1 H2) : Gr [p] H H2 := a.trans (Same.gr b)
end TD
set_option Elab.async false
set_option linter.all false
set_option maxRecDepth 100000
set_option maxHeartbeats 400000
/-! Plain schemes, more. -/
namespace TP
open PySem TD L2
theorem put_mem {t : Tb} {k v : W} {p : W × W} (h : p ∈ put t k v) : p ∈ t ∨ (p.2 = v ∧ p.1 = k) := by
  unfold put at h
  split at h
  · obtain ⟨q, hq, e⟩ := List.mem_map.mp h
    by_cases g : q.1 = k
    · rw [if_pos g] at e; subst e; exact .inr ⟨rfl, g⟩
    · rw [if_neg g] at e; subst e; exact .inl hq
  · rcases List.mem_append.mp h with h | h
    · exact .inl h
    · rw [List.mem_singleton] at h; subst h; exact .inr ⟨rfl, rfl⟩
theorem writeT_val {s : Sc} {b : Nat} (h : ∀ p ∈ s, p.2.length ≤ b) : ∀ p ∈ writeT s, p.2.length ≤ b := by
  unfold writeT
  have : ∀ (s : Sc) (t : Tb), (∀ p ∈ s, p.2.length ≤ b) → (∀ p ∈ t, p.2.length ≤ b) → ∀ p ∈ s.foldl (fun t p => put t p.1 p.2) t, p.2.length ≤ b := by
    intro s
    induction s with
    | nil => intro t _ h; exact h
    | cons p s ih =>
      intro t hs ht
      refine ih _ (fun q hq => hs q (List.mem_cons_of_mem _ hq)) fun q hq => ?_
      rcases put_mem hq with h | h
      · exact ht q h
      · rw [h.1]; exact hs p List.mem_cons_self
  exact this s [] h (fun p hp => by simp at hp)
theorem setd_mem {t : Tb} {k v : W} {p : W × W} (h : p ∈ setd t k v) : p ∈ t ∨ (p.1 = k ∧ p.2 = v) := by
  unfold setd at h
  split at h
  · exact .inl h
  · rcases List.mem_append.mp h with h | h
    · exact .inl h
    · rw [List.mem_singleton] at h; subst h; exact .inr ⟨rfl, rfl⟩
theorem readT_val {s : Sc} {b : Nat} (h : ∀ p ∈ s, p.1.length ≤ b) : ∀ p ∈ readT s, p.2.length ≤ b := by
  unfold readT
  have : ∀ (s : Sc) (t : Tb), (∀ p ∈ s, p.1.length ≤ b) → (∀ p ∈ t, p.2.length ≤ b) → ∀ p ∈ s.foldl (fun t p => setd t p.2 p.1) t, p.2.length ≤ b := by
    intro s
    induction s with
    | nil => intro t _ h; exact h
    | cons p s ih =>
      intro t hs ht
      refine ih _ (fun q hq => hs q (List.mem_cons_of_mem _ hq)) fun q hq => ?_
      rcases setd_mem hq with h | h
      · exact ht q h
      · rw [h.2]; exact hs p List.mem_cons_self
  exact this s [] h (fun p hp => by simp at hp)
theorem setd_len (t : Tb) (k v : W) : (setd t k v).length ≤ t.length + 1 := by
  unfold setd; split
  · omega
  · rw [List.length_append]; simp
theorem readT_len (s : Sc) (t : Tb) : (s.foldl (fun t p => setd t p.2 p.1) t).length ≤ t.length + s.length := by
  induction s generalizing t with
  | nil => simp
  | cons p s ih =>
    rw [List.foldl_cons, List.length_cons]
    have := ih (setd t p.2 p.1)
    have := setd_len t p.2 p.1
    omega
theorem get_mem {t : Tb} {k v : W} (h : get t k = some v) : (k, v) ∈ t := by
  unfold get at h
  obtain ⟨p, hp, rfl⟩ := Option.map_eq_some_iff.mp h
  have := List.find?_some hp
  have e : p.1 = k := by simpa using this
  subst e
  exact List.mem_of_find?_eq_some hp
theorem val_le {t : Tb} {b : Nat} (h : ∀ p ∈ t, p.2.length ≤ b) (k : W) : (val t k).length ≤ b := by
  unfold val
  cases e : get t k with
  | none => simp
  | some v => exact h _ (get_mem e)
theorem mapped_le {t : Tb} {b : Nat} {x y : W} (h : ∀ p ∈ t, p.2.length ≤ b) (e : mapped t x = some y) : y.length ≤ x.length * b := by
  unfold mapped at e
  obtain ⟨ps, h1, rfl⟩ := Option.map_eq_some_iff.mp e
  have l := (split_len _ (Nat.le_refl _) h1).1
  have := flat_le (l := ps.map (val t)) (b := b) fun x hx => by
    obtain ⟨k, _, rfl⟩ := List.mem_map.mp hx
    exact val_le h k
  rw [List.length_map] at this
  exact Nat.le_trans this (Nat.mul_le_mul_right _ l)
/-- sources stand in ascending order -/
theorem asc_lt : ∀ {S : List W}, ascending S = true → List.Pairwise (· < ·) S
  | [], _ => .nil
  | [a], _ => .cons (fun _ h => by simp at h) .nil
  | a :: b :: r, h => by
    have h' : (decide (a < b) && ascending (b :: r)) = true := h
    rw [Bool.and_eq_true, decide_eq_true_iff] at h'
    have ih := asc_lt h'.2
    refine .cons (fun x hx => ?_) ih
    rcases List.mem_cons.mp hx with rfl | hx
    · exact h'.1
    · exact List.lt_trans h'.1 (List.rel_of_pairwise_cons ih hx)
theorem asc_nodup {S : List W} (h : ascending S = true) : S.Nodup := (asc_lt h).imp fun {a b} l e => by
  subst e; exact List.lt_irrefl _ l
theorem writeT_id {s : Sc} (h : (s.map (·.1)).Nodup) : writeT s = s := by
  unfold writeT
  have : ∀ (s : Sc) (t : Tb), ((t ++ s).map (·.1)).Nodup → s.foldl (fun t p => put t p.1 p.2) t = t ++ s := by
    intro s
    induction s with
    | nil => intro t _; simp
    | cons p s ih =>
      intro t hn
      have e : put t p.1 p.2 = t ++ [p] := by
        unfold put
        have : (t.any fun q => decide (q.1 = p.1)) = false := by
          rw [List.any_eq_false]
          intro q hq he
          have he' : q.1 = p.1 := by simpa using he
          rw [List.map_append, List.map_cons] at hn
          have := (List.nodup_append.mp hn).2.2 q.1 (List.mem_map_of_mem hq) p.1 List.mem_cons_self
          exact this he'
        rw [this]; rfl
      rw [List.foldl_cons, e, ih _ (by rw [List.append_assoc]; exact hn), List.append_assoc]; rfl
  simpa using this s [] (by simpa using h)
theorem Scheme.nodup {s : Sc} (h : Scheme s) : (s.map (·.1)).Nodup := asc_nodup h.asc
theorem Scheme.writeT {s : Sc} (h : Scheme s) : writeT s = s := writeT_id h.nodup
theorem get_isSome {t : Tb} {k : W} : (get t k).isSome = true ↔ k ∈ t.map (·.1) := by
  unfold get
  rw [Option.isSome_map, List.find?_isSome, List.mem_map]
  constructor
  · rintro ⟨x, hx, e⟩; exact ⟨x, hx, by simpa using e⟩
  · rintro ⟨x, hx, e⟩; exact ⟨x, hx, by simpa using e⟩
theorem letters_mem {s : Sc} {k : W} : k ∈ letters s ↔ k ∈ s.map (·.1) ∧ k.length = 1 := by
  unfold letters
  rw [List.mem_map, List.mem_map]
  constructor
  · rintro ⟨p, hp, rfl⟩
    rw [List.mem_filter] at hp
    exact ⟨⟨p, hp.1, rfl⟩, by simpa using hp.2⟩
  · rintro ⟨⟨p, hp, rfl⟩, e⟩
    exact ⟨p, List.mem_filter.mpr ⟨hp, by simpa using e⟩, rfl⟩
theorem longestN_some {t : Tb} {x : W} : ∀ {n m : Nat}, m < n → (get t (x.take (m + 1))).isSome = true → (longestN t x n).isSome = true
  | 0, _, h, _ => by omega
  | n + 1, m, h, g => by
    unfold longestN
    split
    · rfl
    · rename_i hn
      have : m ≠ n := fun e => hn (by rw [← e]; exact g)
      exact longestN_some (by omega) g
/-- a word of letters is cut -/
theorem split_total {t : Tb} : ∀ (n : Nat) {x : W}, x.length ≤ n → (∀ c ∈ x, (get t [c]).isSome = true) → (split t x).isSome = true
  | n, x, hn, h => by
    cases x with
    | nil => rw [split_nil]; rfl
    | cons c r =>
      have hl : (longest t (c :: r)).isSome = true := longestN_some (m := 0) (by rw [List.length_cons]; omega) (h c List.mem_cons_self)
      cases e : longest t (c :: r) with
      | none => rw [e] at hl; cases hl
      | some k =>
        rw [split_some (by simp) e, Option.isSome_map]
        have l := longest_len e
        cases n with
        | zero => rw [List.length_cons] at hn; omega
        | succ n => exact split_total n (by rw [List.length_drop]; omega) fun d hd => h d (List.mem_of_mem_drop hd)
theorem isWord_ds {s : Sc} {w : W} : isWord s (ds w) = true ↔ w.length ≤ 40 ∧ ∀ c ∈ w, [c] ∈ s.map (·.1) := by
  unfold isWord isStr
  simp only [tl_sw, Bool.and_eq_true, decide_eq_true_eq, List.all_eq_true]
  constructor
  · rintro ⟨⟨_, h1⟩, h2⟩
    exact ⟨by omega, fun c hc => (letters_mem.mp (h2 c hc)).1⟩
  · rintro ⟨h1, h2⟩
    exact ⟨⟨by omega, by omega⟩, fun c hc => letters_mem.mpr ⟨h2 c hc, rfl⟩⟩
theorem Scheme.split {s : Sc} {w : W} (h : Scheme s) (hw : isWord s (ds w) = true) : ∃ ps, TP.split (TP.writeT s) w = some ps := by
  have := split_total (t := TP.writeT s) _ (Nat.le_refl _) fun c hc => by
    rw [h.writeT, get_isSome]; exact (isWord_ds.mp hw).2 c hc
  exact Option.isSome_iff_exists.mp this
theorem Scheme.mapped {s : Sc} {w : W} (h : Scheme s) (hw : isWord s (ds w) = true) : ∃ y, TP.mapped (TP.writeT s) w = some y ∧ y.length ≤ w.length * 3 := by
  obtain ⟨ps, e⟩ := h.split hw
  have e2 : TP.mapped (TP.writeT s) w = some ((ps.map (val (TP.writeT s))).flatten) := by unfold TP.mapped; rw [e]; rfl
  exact ⟨_, e2, mapped_le (writeT_val fun p hp => (h.tgt1 p hp).2) e2⟩
/-- the transliteration -/
def trans (s : Sc) (w : W) : W := (TP.mapped (TP.writeT s) w).getD []
def survives (s : Sc) (w : W) : Bool := decide (TP.mapped (readT s) (trans s w) = some w)
theorem isWord_D {s : Sc} {v : D} (h : isWord s v = true) : ∃ w, v = ds w := by
  unfold isWord isStr at h
  split at h
  · rename_i x; exact ⟨tl x, by rw [show ds (tl x) = .str (sw (tl x)) from rfl, sw_tl]⟩
  · cases h
abbrev encOs : Option (List W) → D
  | none => .none
  | some ps => encW ps
theorem eqv_O (o : Option W) (w : W) : PyData.eqv (encO o) (ds w) = decide (o = some w) := by
  cases o with
  | none => rw [Bool.eq_iff_iff]; simp [PyData.eqv]
  | some v => rw [eqv_ds]; exact decide_eq_decide.mpr ⟨fun h => by rw [h], fun h => by injection h⟩
theorem encO_some {o : Option W} {y : W} (e : o = some y) : encO o = ds y := by subst e; rfl
end TP
namespace TP
open PySem TD L2
theorem get_val {t : Tb} {k : W} (h : (get t k).isSome = true) : get t k = some (val t k) := by
  unfold val
  cases e : get t k with
  | none => rw [e] at h; cases h
  | some v => rfl
end TP
namespace TP
open PySem TD L2
theorem isText_len {x : W} (h : isText (ds x) = true) : x.length ≤ 40 := by
  unfold isText isStr at h
  simp only [tl_sw, Bool.and_eq_true, decide_eq_true_eq] at h
  omega
end TP
set_option Elab.async false
set_option linter.all false
set_option maxRecDepth 100000
set_option maxHeartbeats 400000
/-! The town: a hidden list of two ints that draws change. -/
namespace TD
open PySem PySem.Spec PyProof.Rows L2 TP
/-- at t stands the town -/
def TownAt (t : Addr) (H : Hp) : Prop := ∃ p r : Int, 0 ≤ p ∧ 0 ≤ r ∧ H t = some (.lst [.int p, .int r])
theorem TownAt.same {t : Addr} {H H' : Hp} (h : TownAt t H) (s : Same H H') : TownAt t H' := let ⟨p, r, a, b, e⟩ := h; ⟨p, r, a, b, s _ _ e⟩
/-- t may change within c -/
def Tn (c : Cz) (t : Addr) : Prop := t ∈ c.T ∧ t ∈ c.M
theorem At.gro {c : Cz} {t : Addr} {H H1 : Hp} {σ : L2.St} {ρ : List DV} (n : Tn c t) (a : At c H σ ρ) (g : Gr [t] H H1) (w : TownAt t H1) : At c H1 σ ρ where
  gr := a.gr.trans (g.mono fun b hb => by simp at hb; rw [hb]; exact n.1)
  lv := fun m hm e => by
    by_cases q : m = t
    · subst q; obtain ⟨p, r, _, _, e'⟩ := w; rw [e'] at e; cases e
    · cases q2 : H m with
      | none => exact a.lv m hm q2
      | some o => rw [g m o (by simpa using q) q2] at e; cases e
  env := a.env.mono (Gr.hid g fun b hb => by simp at hb; rw [hb]; exact n.2)
theorem Gr.hidT {c : Cz} {t : Addr} {H H1 : Hp} (n : Tn c t) (g : Gr [t] H H1) : Same (c.hid H) (c.hid H1) := Gr.hid g fun b hb => by simp at hb; rw [hb]; exact n.2
def EvT (c : Cz) (t : Addr) (te : TE) (ρ : List DV) (P : DV → Prop) : Prop := Tn c t → ∀ H1 σ, At c H1 σ ρ → TownAt t H1 → ∀ Q : VK, (∀ v x H2, P x → Gr [t] H1 H2 → TownAt t H2 → VOk c.K (c.hid H2) v x → Q v H2) → te σ H1 Q
def EvAT (c : Cz) (t : Addr) (ta : TA) (ρ : List DV) (P : List DV → Prop) : Prop := Tn c t → ∀ H1 σ, At c H1 σ ρ → TownAt t H1 → ∀ Q : List V → Hp → Prop, (∀ vs xs H2, P xs → Gr [t] H1 H2 → TownAt t H2 → Args c.K (c.hid H2) vs xs → Q vs H2) → ta σ H1 Q
def EvBT (c : Cz) (t : Addr) (tt : TT) (ρ : List DV) (P : Bool → Prop) : Prop := Tn c t → ∀ H1 σ, At c H1 σ ρ → TownAt t H1 → ∀ Q : Bool → Hp → Prop, (∀ b H2, P b → Gr [t] H1 H2 → TownAt t H2 → Q b H2) → tt σ H1 Q
def EvIT (c : Cz) (t : Addr) (wi : TI) (ρ : List DV) (P : List IV → Prop) : Prop := Tn c t → ∀ H1 σ, At c H1 σ ρ → TownAt t H1 → ∀ R : It → Hp → Prop, (∀ J H2 its, P its → Gr [t] H1 H2 → TownAt t H2 → ItOk c.M H2 J its → R J H2) → wi σ H1 R
/-- a def that draws: for xs it hands back some x with P x -/
def spT (K : PySem.W.Frag) (ok : Addr → List DV → (DV → Prop) → Prop) : Sp := fun vs H Q E => ∃ M t xs P, t ∈ M ∧ Live M H ∧ TownAt t H ∧ Args K (hid M H) vs xs ∧ ok t xs P ∧ ∀ v x H', P x → Gr [t] H H' → TownAt t H' → VOk K (hid M H') v x → Q v H'
section
variable {c : Cz} {t : Addr} {ρ : List DV} {te ta tb : TE} {tt : TT} {tl tr : TA} {wi : TI} {P P' : DV → Prop} {x : DV}
theorem EvT.imp (h : EvT c t te ρ P) (i : ∀ x, P x → P' x) : EvT c t te ρ P' := fun n H1 σ a w Q q => h n H1 σ a w Q fun v x H2 p g w2 o => q v x H2 (i x p) g w2 o
theorem et_pure (h : EvX c te ρ x) (p : P x) : EvT c t te ρ P := fun n H1 σ a w Q q => h H1 σ a Q fun v H2 s o => q v x H2 p (Same.gr s) (w.same s) o
theorem et_x (h : EvX c te ρ x) : EvT c t te ρ (· = x) := et_pure h rfl
theorem eat_nil : EvAT c t tNil ρ (· = []) := fun n H1 σ a w Q q => q [] [] H1 rfl (Gr.refl _ _) w .nil
theorem eat_cons {R : List DV → Prop} (h : EvT c t ta ρ P) (hr : EvAT c t tr ρ R) : EvAT c t (tCons ta tr) ρ (fun l => ∃ x xs, l = x :: xs ∧ P x ∧ R xs) := fun n H1 σ a w Q q =>
  h n H1 σ a w _ fun v x H2 p g w2 o => hr n H2 σ (a.gro n g w2) w2 _ fun vs xs H3 r g3 w3 o3 => q (v :: vs) (x :: xs) H3 ⟨x, xs, rfl, p, r⟩ (g.trans g3) w3 (.cons (o.mono (Gr.hidT n g3)) o3)
theorem eat_pure {xs : List DV} (h : EvA c tl ρ xs) : EvAT c t tl ρ (· = xs) := fun n H1 σ a w Q q => h H1 σ a Q fun vs H2 s o => q vs xs H2 rfl (Same.gr s) (w.same s) o
theorem et_callT {ok : Addr → List DV → (DV → Prop) → Prop} {E : XK} {R : List DV → Prop} (ha : EvAT c t tl ρ R) (h : ∀ xs, R xs → ∃ P', ok t xs P' ∧ ∀ x, P' x → P x) : EvT c t (tCall (spT c.K ok) [] E tl) ρ P := fun n H1 σ a w Q q =>
  ha n H1 σ a w _ fun vs xs H2 r g w2 o => by
    obtain ⟨P', k, i⟩ := h xs r
    rw [List.append_nil]
    exact ⟨c.M, t, xs, P', n.2, (a.gro n g w2).lv, w2, o, k, fun v x H3 p g3 w3 o3 => q v x H3 (i x p) (g.trans g3) w3 o3⟩
theorem et_call {ok : Addr → List DV → (DV → Prop) → Prop} {E : XK} {xs : List DV} (ha : EvA c tl ρ xs) (h : ok t xs P) : EvT c t (tCall (spT c.K ok) [] E tl) ρ P := et_callT (eat_pure ha) fun _ e => ⟨P, by rw [e]; exact h, fun _ p => p⟩
theorem et_op {r : R2} {Pa Pb : DV → Prop} (ha : EvT c t ta ρ Pa) (hb : EvT c t tb ρ Pb) (hr : ∀ x y, Pa x → Pb y → ∃ z, P z ∧ RX c r x y z) : EvT c t (tOp r ta tb) ρ P := fun n H1 σ a w Q q =>
  ha n H1 σ a w _ fun u x H2 p g w2 o => hb n H2 σ (a.gro n g w2) w2 _ fun v y H3 p3 g3 w3 o3 => by
    obtain ⟨z, pz, h⟩ := hr x y p p3
    have a3 := (a.gro n g w2).gro n g3 w3
    exact h H3 a3.gr a3.lv u v (o.mono (Gr.hidT n g3)) o3 _ fun v' H4 s4 o4 => q v' z H4 pz ((g.trans g3).trans (Same.gr s4)) (w3.same s4) o4
theorem et_cb {r : List V → Hp → VK → Prop} {R : List DV → Prop} (ha : EvAT c t tl ρ R) (hr : ∀ xs, R xs → ∃ z, P z ∧ RCX c r xs z) : EvT c t (tCB r tl) ρ P := fun n H1 σ a w Q q =>
  ha n H1 σ a w _ fun vs xs H2 p g w2 o => by
    obtain ⟨z, pz, h⟩ := hr xs p
    have a2 := a.gro n g w2
    exact h H2 a2.gr a2.lv vs o _ fun v' H4 s4 o4 => q v' z H4 pz (g.trans (Same.gr s4)) (w2.same s4) o4
theorem et_m1 {r : V → List V → Hp → VK → Prop} {to : TE} {Pb : DV → Prop} {x : Str} (ho : EvX c to ρ (.d (.str x))) (he : EvT c t te ρ Pb) (hr : ∀ y, Pb y → ∃ z, P z ∧ RMX c r (.d (.str x)) [y] z) : EvT c t (tM1 r to te) ρ P := fun n H1 σ a w Q q =>
  ho H1 σ a _ fun u H2 s2 o2 => ⟨⟨x, dq_str o2⟩, he n H2 σ (a.same s2) (w.same s2) _ fun v y H3 p g w3 o3 => by
    obtain ⟨z, pz, h⟩ := hr y p
    have a3 := (a.same s2).gro n g w3
    exact h H3 a3.gr a3.lv u [v] (o2.mono (Gr.hidT n g)) (.cons o3 .nil) _ fun v' H4 s4 o4 => q v' z H4 pz ((Same.gr s2).trans (g.trans (Same.gr s4))) (w3.same s4) o4⟩
theorem et_tup (ha : EvAT c t tl ρ fun l => ∃ xs : List D, l = xs.map DV.d ∧ xs.length ≤ 1000 ∧ P (.d (.tuple xs))) : EvT c t (tTupF tl) ρ P := fun n H1 σ a w Q q =>
  ha n H1 σ a w _ fun vs l H2 p g w2 o => by
    obtain ⟨xs, rfl, hz, px⟩ := p
    have hd := args_dq o
    exact ⟨by rw [dqAll_len hd]; exact Nat.le_trans hz (by decide), newT_q (a.gro n g w2).lv hd fun v H3 s3 o3 => q v _ H3 px (g.trans (Same.gr s3)) (w2.same s3) o3⟩
theorem et_lst (ha : EvAT c t tl ρ fun l => ∃ xs : List D, l = xs.map DV.d ∧ xs.length ≤ 1000 ∧ P (.d (.list xs))) : EvT c t (tLst tl) ρ P := fun n H1 σ a w Q q =>
  ha n H1 σ a w _ fun vs l H2 p g w2 o => by
    obtain ⟨xs, rfl, hz, px⟩ := p
    have hd := args_dq o
    exact ⟨by rw [dqAll_len hd]; exact Nat.le_trans hz (by decide), fun p hp => q _ _ _ px (g.trans (Same.gr (same_new hp _))) (w2.same (same_new hp _)) (new_lst (a.gro n g w2).lv hp hd)⟩
theorem rx_ixL {c : Cz} {K : PySem.W.Frag} {xs : List D} {i : Int} {y : D} (e : atI xs i = some y) : RX c (rIx K) (.d (.list xs)) (.d (.int i)) (.d y) := fun H1 _ _ u v hu hv Q q => by
  obtain ⟨p, vs, rfl, hp, hvs⟩ := dq_list hu
  obtain ⟨w, e1, e2⟩ := dqAll_atI hvs e
  exact .inl ⟨p, vs, i, w, rfl, dq_int hv, sqL_of hp, e1, q w H1 (Same.refl _) e2⟩
theorem rx_ixT {c : Cz} {K : PySem.W.Frag} {xs : List D} {i : Int} {y : D} (e : atI xs i = some y) : RX c (rIx K) (.d (.tuple xs)) (.d (.int i)) (.d y) := fun H1 _ _ u v hu hv Q q => by
  obtain ⟨p, o, vs, rfl, hp, _, hvs⟩ := dq_tuple hu
  obtain ⟨w, e1, e2⟩ := dqAll_atI hvs e
  exact .inr (.inl ⟨p, vs, i, w, rfl, dq_int hv, sqT_of hp, e1, q w H1 (Same.refl _) e2⟩)
theorem rx_ixS {c : Cz} {K : PySem.W.Frag} {l : List Nat} {i : Int} {n : Nat} (e : atI l i = some n) (hz : l.length ≤ 1000000) : RX c (rIx K) (.d (ds l)) (.d (.int i)) (.d (ds [n])) := fun H1 _ _ u v hu hv Q q =>
  .inr (.inr ⟨sw l, i, n, dq_str hu, dq_int hv, by rw [sw_len]; exact Nat.le_trans hz (by decide), by
      have e2 : (sw l).cps.toList = l := tl_sw l
      rw [e2]; exact e, q _ H1 (Same.refl _) (Dq.str _)⟩)
/-- xs[e]: the index is drawn -/
theorem et_sub {ty : TE} {Py : DV → Prop} (ha : EvX c ta ρ x) (hb : EvT c t ty ρ Py) (h : ∀ y, Py y → ∃ z, P z ∧ RX c (rIx c.K) x y z) : EvT c t (tSub c.K ta ty) ρ P := fun n H1 σ a w Q q =>
  .inl (et_op (P := P) (et_x ha) hb (fun u y e p => by rw [e]; exact h y p) n H1 σ a w Q q)
theorem et_if {R : Bool → Prop} (h : EvBT c t tt ρ R) (h1 : R true → EvT c t ta ρ P) (h2 : R false → EvT c t tb ρ P) : EvT c t (tIf tt ta tb) ρ P := fun n H1 σ a w Q q => h n H1 σ a w _ fun b H2 r g w2 => by
  cases b with
  | true => exact iteT (h1 r n H2 σ (a.gro n g w2) w2 Q fun v x H3 p g3 w3 o => q v x H3 p (g.trans g3) w3 o)
  | false => exact iteF (h2 r n H2 σ (a.gro n g w2) w2 Q fun v x H3 p g3 w3 o => q v x H3 p (g.trans g3) w3 o)
theorem ebt_pure {b : Bool} (h : EvB c tt ρ b) : EvBT c t tt ρ (· = b) := fun n H1 σ a w Q q => h H1 σ a Q fun H2 s => q b H2 rfl (Same.gr s) (w.same s)
theorem ebt_test (h : EvT c t te ρ fun x => ∃ b, x = .d (.bool b)) : EvBT c t (tTest te) ρ (fun _ => True) := fun n H1 σ a w Q q => h n H1 σ a w _ fun v x H2 p g w2 o => by
  obtain ⟨b, rfl⟩ := p
  exact ⟨b, dq_bool o, q b H2 trivial g w2⟩
theorem ebt_truth {K : PySem.W.Frag} (h : EvT c t te ρ fun x => ∃ b, x = .d (.bool b)) : EvBT c t (fun σ H Q => te σ H fun x H' => ∃ k, TruV K x H' k ∧ Q k H') ρ (fun _ => True) := fun n H1 σ a w Q q => h n H1 σ a w _ fun v x H2 p g w2 o => by
  obtain ⟨b, rfl⟩ := p
  obtain rfl := dq_bool o
  exact ⟨b, rfl, q b H2 trivial g w2⟩
/-! iterators -/
theorem eit_pure {its : List IV} (h : EvI c wi ρ its) : EvIT c t wi ρ (· = its) := fun n H1 σ a w R r => h H1 σ a R fun J H2 s ok => r J H2 its rfl (Same.gr s) (w.same s) ok
theorem eit_rng {Pn : Nat → Prop} (h : EvAT c t tl ρ fun l => ∃ n : Nat, l = [.d (.int n)] ∧ n ≤ 1000000 ∧ Pn n) : EvIT c t (iRng1 tl) ρ (fun its => ∃ ys : List Nat, (∃ n, ys = List.range n ∧ Pn n) ∧ its = ys.map fun i => .d (.int (0 + i))) := fun n H1 σ a w R r => h n H1 σ a w _ fun vs l H2 p g w2 o => by
  obtain ⟨k, rfl, hk, pk⟩ := p
  obtain ⟨v, rfl, o2⟩ := args1 o
  have e : (k : Int).toNat = k := by omega
  have q := r (Itr 0 k) H2 _ ⟨List.range k, ⟨k, rfl, pk⟩, rfl⟩ g w2 itOk_rng
  exact ⟨k, by rw [dq_int o2], by omega, by omega, by rw [e]; exact q⟩
theorem eit_list {K : PySem.W.Frag} {PI : List IV → Prop} (h : EvT c t te ρ fun x => ∃ xs : List D, x = .d (.list xs) ∧ PI (xs.map .d)) : EvIT c t (iSeq K te) ρ PI := fun n H1 σ a w R r => .inl (h n H1 σ a w _ fun v x H2 p g w2 o => by
  obtain ⟨xs, rfl, px⟩ := p
  obtain ⟨p, vs, rfl, h1, h2⟩ := dq_list o
  exact ⟨p, rfl, ⟨vs, sqL_of h1⟩, r _ H2 _ px g w2 (itOk_list h1 h2)⟩)
theorem eit_tup {K : PySem.W.Frag} {PI : List IV → Prop} (h : EvT c t te ρ fun x => ∃ xs : List D, x = .d (.tuple xs) ∧ PI (xs.map .d)) : EvIT c t (iSeq K te) ρ PI := fun n H1 σ a w R r => .inr (.inl (h n H1 σ a w _ fun v x H2 p g w2 o => by
  obtain ⟨xs, rfl, px⟩ := p
  obtain ⟨p, o, vs, rfl, h1, h0, h2⟩ := dq_tuple o
  exact ⟨p, rfl, ⟨vs, sqT_of h1⟩, r _ H2 _ px g w2 (itOk_tup h1 h2)⟩))
theorem eit_str {K : PySem.W.Frag} {PI : List IV → Prop} (h : EvT c t te ρ fun x => ∃ l : W, x = .d (ds l) ∧ PI (l.map fun n => .d (ds [n]))) : EvIT c t (iSeq K te) ρ PI := fun n H1 σ a w R r => .inr (.inr (h n H1 σ a w _ fun v x H2 p g w2 o => by
  obtain ⟨l, rfl, px⟩ := p
  exact ⟨sw l, dq_str o, r _ H2 _ px g w2 itOk_str⟩))
theorem Forall2.snoc {α β : Type} {R : α → β → Prop} {xs : List α} {ys : List β} {x : α} {y : β} (h : Paired R xs ys) (r : R x y) : Paired R (xs ++ [x]) (ys ++ [y]) := by
  induction h with
  | nil => exact .cons r .nil
  | cons a _ ih => exact .cons a ih
theorem et_lc {g : TG} {vs : List Nat} {α : Type} {it : α → IV} {Py : List α → Prop} {R : α → D → Prop} {js : List Nat} {ρ' : α → List DV} (hi : EvIT c t wi ρ fun its => ∃ ys : List α, Py ys ∧ its = ys.map it)
    (hg : ∀ ys x, Py ys → x ∈ ys → GOk c.K js g (it x) (wipeD ρ vs) (ρ' x)) (hj : SubJ js vs) (he : ∀ q ys x, Py ys → x ∈ ys → EvT (c.push q) t te (ρ' x) fun z => ∃ d, z = .d d ∧ R x d) (hz : ∀ ys, Py ys → Fits ys.length)
    (hP : ∀ ys zs, Py ys → Paired R ys zs → P (.d (.list zs))) :
    EvT c t (tLc wi g tYes te vs) ρ P := fun n H1 σ a w Q q => hi n H1 σ a w _ fun J H2 its ⟨ys, py, e⟩ g2 w2 ok q0 hq0 => by
  subst e
  have a2 := a.gro n g2 w2
  have hl : (ys.map it).length = ys.length := List.length_map _
  have nq : Tn (c.push q0) t := ⟨n.1, List.mem_cons_of_mem _ n.2⟩
  have tq : ∀ {H : Hp}, TownAt t H → H q0 = none → t ≠ q0 := fun ⟨p, r, _, _, e⟩ h z => by rw [z, h] at e; cases e
  have htq := tq w2 hq0
  refine ⟨fun i m H' => m = ys.length - i ∧ i ≤ ys.length ∧ Gr [t] H2 H' ∧ TownAt t H' ∧ ∃ acc zs, H' q0 = some (.lst acc) ∧ DqAll (hid (q0 :: c.M) H') acc zs ∧ Paired R (ys.take i) zs,
    ⟨_, rfl, Nat.zero_le _, Same.gr (same_new hq0 _), w2.same (same_new hq0 _), [], [], upd_same, .nil, .nil⟩, ?_⟩
  rintro i m H' ⟨rfl, hi', gs, wt, acc, zs, e1, e2, e3⟩
  have s3 : Same (hid c.M H2) (hid (q0 :: c.M) H') := fun b o e => by
    obtain ⟨h1, h2⟩ := hid_some e
    have hb : b ≠ q0 := ne_of_none h2 hq0
    rw [hid_out (by simp [hb, h1])]
    exact gs b o (by simp; intro z; exact h1 (by rw [z]; exact n.2)) h2
  have lv : Live (q0 :: c.M) H' := fun b hb => by
    rcases List.mem_cons.mp hb with rfl | hb
    · rw [e1]; exact fun z => by cases z
    · exact (a2.gro n gs wt).lv b hb
  have hacc : acc.length ≤ i := by
    rw [dqAll_len e2, ← e3.length, List.length_take]; exact Nat.min_le_left _ _
  by_cases hlt : i < ys.length
  · refine .inr ⟨ok.go _ i H' s3 lv (by rw [hl]; exact hlt), _, fun H'' z => z, fun v H3 y => ?_⟩
    obtain ⟨s4, itv, f1, f2⟩ := ok.yld _ i H' v H3 s3 lv (by rw [hl]; exact hlt) y
    obtain ⟨x, hx, rfl⟩ : ∃ x, ys[i]? = some x ∧ it x = itv := by
      rw [List.getElem?_map] at f1
      cases h : ys[i]? with
      | none => rw [h] at f1; cases f1
      | some x => rw [h] at f1; exact ⟨x, rfl, Option.some.inj f1⟩
    have hmem : x ∈ ys := List.mem_of_getElem? hx
    have A3 : Env c.K (hid (q0 :: c.M) H3) (wipe σ vs) (wipeD ρ vs) := ((a2.env.mono s3).mono (Same.hid s4)).wipe vs
    refine hg ys x py hmem (q0 :: c.M) H3 (wipe σ vs) v _ A3 f2 fun σ' e' w' => ⟨?_, ?_⟩
    · rw [w' vs hj]; exact wipe_wipe fun j hj => hj
    · have at3 : At (c.push q0) H3 σ' (ρ' x) := ⟨(a2.gr.trans (gs.mono fun b hb => by simp at hb; rw [hb]; exact n.1)).trans (Same.gr s4), lv.same s4, e'⟩
      refine eb_yes H3 σ' at3 _ fun H4 s5 => ?_
      refine iteT ?_
      refine he q0 ys x py hmem nq H4 σ' (at3.same s5) ((wt.same s4).same s5) _ fun v' z H5 pz g6 w6 o6 => ?_
      obtain ⟨d, rfl, rd⟩ := pz
      have ne : q0 ∉ [t] := by simp; exact fun z => htq z.symm
      have e5 : H5 q0 = some (.lst acc) := g6 _ _ ne (s5 _ _ (s4 _ _ e1))
      have sh : Same (hid (q0 :: c.M) H') (hid (q0 :: c.M) H5) := (Same.hid (s4.trans s5)).trans (Gr.hidT nq g6)
      have up : Same (hid (q0 :: c.M) H5) (hid (q0 :: c.M) (upd H5 q0 (.lst (acc ++ [v'])))) := fun b o eb => by
        obtain ⟨h1, h2⟩ := hid_some eb
        rw [hid_out h1, upd_ne fun z => h1 (by rw [z]; exact List.mem_cons_self)]; exact h2
      refine ⟨acc, e5, Nat.lt_of_le_of_lt (Nat.le_trans hacc (Nat.le_of_lt (Nat.lt_of_lt_of_le hlt (hz ys py)))) (by decide), ys.length - (i + 1), by omega, rfl, hlt, fun b o nb eb => ?_, ?_, acc ++ [v'], zs ++ [d], upd_same, ?_, ?_⟩
      · rw [upd_ne (ne_of_none eb hq0)]; exact g6 _ _ nb (s5 _ _ (s4 _ _ (gs _ _ nb eb)))
      · obtain ⟨p, r, h1, h2, h3⟩ := w6
        exact ⟨p, r, h1, h2, by rw [upd_ne htq]; exact h3⟩
      · exact dqAll_app (dqAll_mono up _ _ (dqAll_mono sh _ _ e2)) (.cons (dq_mono up _ _ o6) .nil)
      · rw [List.take_add_one, hx]; exact Forall2.snoc e3 rd
  · have e : i = ys.length := by omega
    subst e
    rw [List.take_length] at e3
    have hn : q0 ∉ c.M := fun z => a2.lv q0 z hq0
    exact .inl ⟨ok.stop _ _ H' s3 lv (by rw [hl]; exact Nat.le_refl _), q _ _ H' (hP ys zs py e3) (g2.trans gs) wt (.lst (by show hid c.M H' q0 = _; rw [hid_out hn]; exact e1) (dqAll_mono hid_cons _ _ e2))⟩
end
/-! statements -/
structure StaT (K : PySem.W.Frag) (M : List Addr) (t : Addr) (H : Hp) (σ : L2.St) (ρ : List DV) : Prop where
  sta : Sta K M H σ ρ
  tm : t ∈ M
  tw : TownAt t H
abbrev czT (K : PySem.W.Frag) (M : List Addr) (t : Addr) (H : Hp) : Cz := ⟨K, M, [t], H⟩
section
variable {K : PySem.W.Frag} {M : List Addr} {t : Addr} {H : Hp} {σ : L2.St} {ρ : List DV} {D : Ends} {te : TE} {tt : TT} {tu tw tz : TS} {i : Nat} {P : DV → Prop}
theorem StaT.at (s : StaT K M t H σ ρ) : At (czT K M t H) H σ ρ := ⟨Gr.refl _ _, s.sta.lv, s.sta.env⟩
theorem StaT.n (s : StaT K M t H σ ρ) : Tn (czT K M t H) t := ⟨List.mem_singleton.mpr rfl, s.tm⟩
theorem StaT.of {H' : Hp} {σ' : L2.St} {ρ' : List DV} (s : StaT K M t H σ ρ) (h : Same H H') (a : Sta K M H' σ' ρ') : StaT K M t H' σ' ρ' := ⟨a, s.tm, s.tw.same h⟩
theorem StaT.gro {H' : Hp} (s : StaT K M t H σ ρ) (g : Gr [t] H H') (w : TownAt t H') : StaT K M t H' σ ρ := by
  have a := s.at.gro s.n g w
  exact ⟨⟨a.lv, a.env⟩, s.tm, w⟩
theorem StaT.set {v : V} {x : DV} (s : StaT K M t H σ ρ) (h : VOk K (hid M H) v x) : StaT K M t H (σ.set i (some v)) (ρ.set i x) := ⟨s.sta.set h, s.tm, s.tw⟩
theorem qt_asg (s : StaT K M t H σ ρ) (h : EvT (czT K M t H) t te ρ P) (k : ∀ x σ' H', P x → Gr [t] H H' → StaT K M t H' σ' (ρ.set i x) → tz D σ' H') : tSeq (tAsg te (gName i)) tz D σ H :=
  h s.n H σ s.at s.tw _ fun v x H2 p g w o => k x _ H2 p g ((s.gro g w).set o)
theorem st_asg (s : StaT K M t H σ ρ) (h : EvT (czT K M t H) t te ρ P) (k : ∀ x σ' H', P x → Gr [t] H H' → StaT K M t H' σ' (ρ.set i x) → D.nx σ' H') : tAsg te (gName i) D σ H :=
  h s.n H σ s.at s.tw _ fun v x H2 p g w o => k x _ H2 p g ((s.gro g w).set o)
theorem st_ret (s : StaT K M t H σ ρ) (h : EvT (czT K M t H) t te ρ P) (k : ∀ v x H', P x → Gr [t] H H' → TownAt t H' → VOk K (hid M H') v x → D.rt v H') : tRet te D σ H := h s.n H σ s.at s.tw _ fun v x H2 p g w o => k v x H2 p g w o
theorem st_if {R : Bool → Prop} (s : StaT K M t H σ ρ) (h : EvBT (czT K M t H) t tt ρ R) (h1 : R true → ∀ H', Gr [t] H H' → StaT K M t H' σ ρ → tu D σ H') (h2 : R false → ∀ H', Gr [t] H H' → StaT K M t H' σ ρ → tw D σ H') : tIfS tt tu tw D σ H :=
  h s.n H σ s.at s.tw _ fun b H2 r g w => by
    cases b with
    | true => exact iteT (h1 r H2 g (s.gro g w))
    | false => exact iteF (h2 r H2 g (s.gro g w))
theorem qt_if {R : Bool → Prop} (s : StaT K M t H σ ρ) (h : EvBT (czT K M t H) t tt ρ R) (h1 : R true → ∀ H', Gr [t] H H' → StaT K M t H' σ ρ → tu { D with nx := tz D } σ H') (h2 : R false → ∀ H', Gr [t] H H' → StaT K M t H' σ ρ → tw { D with nx := tz D } σ H') : tSeq (tIfS tt tu tw) tz D σ H :=
  st_if (D := { D with nx := tz D }) s h h1 h2
end
end TD
set_option Elab.async false
set_option linter.all false
set_option maxRecDepth 100000
set_option maxHeartbeats 400000
/-! What a draw wants. -/
namespace TD
open PySem PySem.Spec PyProof.Rows L2 TP
section
variable {X : Cx}
def rGetL : V → V → Hp → VK → Prop := fun x y H Q => ∃ p xs i v, x = .ref p ∧ y = .int i ∧ 0 ≤ i ∧ i < 1000 ∧ H p = some (.lst xs) ∧ xs[i.toNat]? = some v ∧ Q v H
theorem get_list : PGet X rGetL := by
  intro pins s σ H o i ov iv Q I ro ri h
  obtain ⟨p, xs, k, v, rfl, rfl, h0, h1, hp, he, q⟩ := h
  cases ro
  obtain ⟨t, rfl⟩ := ri
  obtain ⟨its, r, pl, hz⟩ := I.list (.inl (.inl hp))
  obtain ⟨w, ew, rw'⟩ := r.get he
  exact wpAny_getItem_list pl.isList h0 (by omega) (by simpa using ew) ⟨v, H, I, rw', q⟩
theorem eqv_nil (ns : List Int) : PyData.eqv (.list (ns.map .int)) (.list []) = decide (ns = []) := by
  cases ns with
  | nil => rfl
  | cons a l => rfl
theorem dpAll_ints {K : PySem.W.Frag} {H : Hp} : ∀ ns : List Int, DpAll K H (ns.map V.int) (ns.map PyData.int)
  | [] => .nil
  | n :: ns => .cons (.int n) (dpAll_ints ns)
theorem plainAll_ints : ∀ ns : List Int, PyData.plainAll (ns.map .int) = true
  | [] => rfl
  | n :: ns => by show (PyData.plain (.int n) && PyData.plainAll (ns.map .int)) = true; rw [plainAll_ints ns]; rfl
/-- the script == [] -/
def rEqSc (K : PySem.W.Frag) : R2 := fun x y H Q => ∃ a ns b, x = .ref a ∧ SqL K H a (ns.map V.int) ∧ y = .ref b ∧ H b = some (.lst []) ∧ Q (.bl (decide (ns = []))) H
theorem op_eqSc (hu : X.A.units + 64 < cLine) : OpR X (compareOp .Eq) (rEqSc X.K) := by
  intro pins s σ H x y v u Q I rx ry h
  obtain ⟨a, ns, b, rfl, h1, rfl, h2, q⟩ := h
  have d1 : Dp X.K H (.ref a) (.list (ns.map .int)) := .lst h1 (dpAll_ints ns)
  have d2 : Dp X.K H (.ref b) (.list []) := .lst (.inl (.inl h2)) .nil
  obtain ⟨as, r1⟩ := Dp.reads I _ _ _ d1 rx
  obtain ⟨bs, r2⟩ := Dp.reads I _ _ _ d2 ry
  rw [← eqv_nil] at q
  exact SeqAt.eq_plain r1 r2 (show PyData.plainAll (ns.map .int) = true from plainAll_ints ns) rfl (by have h1 := Nat.min_le_right (PyData.list (ns.map .int)).depth (PyData.list []).depth; (have h2 : (PyData.list []).depth ≤ 1 := by decide); omega) ⟨.bl _, H, I, rfl, q⟩
end
section
variable {c : Cz} {K : PySem.W.Frag} {t : Addr} {ρ : List DV} {ta te : TE} {p r : Int}
theorem ead_nil : EvA c tNil ρ (([] : List D).map DV.d) := ea_nil
theorem ead_cons {tr : TA} {x : D} {xs : List D} (h : EvX c ta ρ (.d x)) (hr : EvA c tr ρ (xs.map DV.d)) : EvA c (tCons ta tr) ρ ((x :: xs).map DV.d) := ea_cons h hr
def Few (n : Nat) : Prop := n ≤ 1000
theorem ev_nilL : EvX c (tLst tNil) ρ (.d (.list [])) := ev_lst (xs := []) ea_nil (by decide)
theorem ev_lstD {ta : TA} {xs : List D} (h : EvA c ta ρ (xs.map DV.d)) (hz : Few xs.length) : EvX c (tLst ta) ρ (.d (.list xs)) := ev_lst h hz
theorem ev_tupD {ta : TA} {xs : List D} (h : EvA c ta ρ (xs.map DV.d)) (hz : Few xs.length) : EvX c (tTupF ta) ρ (.d (.tuple xs)) := ev_tup h hz
theorem rx_eqSc {ns : List Int} : RX c (rEqSc c.K) (.s ns) (.d (.list [])) (.d (.bool (decide (ns = [])))) := fun H1 _ _ u v hu hv Q q => by
  obtain ⟨a, rfl, ha⟩ := hu
  obtain ⟨b, vs, rfl, hb, hvs⟩ := dq_list hv
  cases hvs
  exact ⟨a, ns, b, rfl, L2.Same.seq hid_le ha, rfl, (hid_some hb).2, q _ H1 (Same.refl _) (Dq.bl _)⟩
theorem rx_modI {i j : Int} (h : 0 < j) : RX c (rI (fun _ j => 0 < j) fun i j => .int (i % j)) (.d (.int i)) (.d (.int j)) (.d (.int (i % j))) := rx_I (C := fun _ j => 0 < j) (g := fun i j => i % j) h
theorem rx_powI {i j : Int} (h : CPow i j) : RX c (rI CPow fun i j => .int (i ^ j.toNat)) (.d (.int i)) (.d (.int j)) (.d (.int (i ^ j.toNat))) := rx_I (C := CPow) (g := fun i j => i ^ j.toNat) h
theorem rx_mulU {i j : Int} (h : CMul i j ∨ CMulW i j) : RX c rMulU (.d (.int i)) (.d (.int j)) (.d (.int (i * j))) := h.elim rx_mulI rx_mulW
theorem ev_town1 (hT : c.T = []) (ht : c.H t = some (.lst [.int p, .int r])) (h : EvX c ta ρ (.v (.ref t))) : EvX c (tSub K ta (tC (.int 1))) ρ (.d (.int r)) := fun H1 σ a Q q => .inl (h H1 σ a _ fun v H2 s2 o2 => by
  obtain rfl : v = V.ref t := o2
  have g := a.gr; rw [hT] at g
  exact .inl ⟨t, _, 1, .int r, rfl, rfl, .inl (.inl (s2 _ _ (g.same _ _ ht))), rfl, q _ H2 s2 (Dq.int _)⟩)
theorem ev_town0 (hT : c.T = []) (ht : c.H t = some (.lst [.int p, .int r])) (h : EvX c ta ρ (.v (.ref t))) : EvX c (tSub K ta (tC (.int 0))) ρ (.d (.int p)) := fun H1 σ a Q q => .inl (h H1 σ a _ fun v H2 s2 o2 => by
  obtain rfl : v = V.ref t := o2
  have g := a.gr; rw [hT] at g
  exact .inl ⟨t, _, 0, .int p, rfl, rfl, .inl (.inl (s2 _ _ (g.same _ _ ht))), rfl, q _ H2 s2 (Dq.int _)⟩)
end
section
variable {K : PySem.W.Frag} {M : List Addr} {t : Addr} {H : Hp} {σ : L2.St} {ρ : List DV} {D : Ends} {te to : TE} {tz : TS} {p r n : Int}
/-- town[1] = e -/
theorem q_tput (s : Sta K M H σ ρ) (tm : t ∈ M) (ht : H t = some (.lst [.int p, .int r])) (h : EvX (cz K M H) te ρ (.d (.int n))) (ho : EvX (cz K M H) to ρ (.v (.ref t)))
    (k : ∀ H', Gr [t] H H' → H' t = some (.lst [.int p, .int n]) → Sta K M H' σ ρ → tz D σ H') : tSeq (tAsg te (gSub to (tC (.int 1)) rSetL)) tz D σ H :=
  h H σ s.at _ fun v H2 s2 o2 => by
    obtain rfl := dq_int o2
    refine ho H2 σ (s.at.same s2) _ fun u H3 s3 o3 => ?_
    obtain rfl : u = V.ref t := o3
    refine ⟨t, _, 1, 1, rfl, rfl, s3 _ _ (s2 _ _ ht), rfl, k _ (fun b o nb eb => ?_) upd_same (((s.same s2).same s3).write tm)⟩
    rw [upd_ne (by simpa using nb)]; exact s3 _ _ (s2 _ _ eb)
/-- town[0] += e -/
theorem q_tinc {ip : TIp} (s : Sta K M H σ ρ) (tm : t ∈ M) (ht : H t = some (.lst [.int p, .int r])) (h : EvX (cz K M H) te ρ (.d (.int n))) (ho : EvX (cz K M H) to ρ (.v (.ref t)))
    (hip : ∀ H Q, Q (.int (p + n)) H → ip (.int p) (.int n) H Q) (k : ∀ H', Gr [t] H H' → H' t = some (.lst [.int (p + n), .int r]) → Sta K M H' σ ρ → tz D σ H') : tSeq (tAugS to (tC (.int 0)) te rGetL ip rSetL) tz D σ H :=
  ho H σ s.at _ fun u H3 s3 o3 => by
    obtain rfl : u = V.ref t := o3
    have e3 := s3 _ _ ht
    refine ⟨t, _, 0, .int p, rfl, rfl, by decide, by decide, e3, rfl, h H3 σ (s.at.same s3) _ fun v H4 s4 o4 => ?_⟩
    obtain rfl := dq_int o4
    refine hip _ _ ⟨t, _, 0, 0, rfl, rfl, s4 _ _ e3, rfl, k _ (fun b o nb eb => ?_) upd_same (((s.same s3).same s4).write tm)⟩
    rw [upd_ne (by simpa using nb)]; exact s4 _ _ (s3 _ _ eb)
end
section
variable {P : Program} {w : World} {K : PySem.W.Frag} {mg : Str → Option Value} {base : Heap}
/-- the rule for a def that draws -/
theorem def_okT {x : Str} {st : Stmt} {N ps : List Str} {k : Nat} {ok : Addr → List DV → (DV → Prop) → Prop} (d : ∃ f, DefAt K x st f) (hmg : ∀ f, PySem.W.nsIn K mainGlobals x = some (some (.ref f)) → mg x = some (.ref f)) (S : FnScope N ps (defScope st))
    (hbind : ∀ (kV doc pm : Value) (an : Option Addr) (cdv ct : Value) (us : List Value), us.length = ps.length → bindArgs (PySem.W.fnOf x x (defArgs st) (defBody st) (defScope st) .none kV doc pm an cdv ct) ⟨us, []⟩ = pure (ps.zip us))
    (len : ∀ t xs Pd, ok t xs Pd → xs.length = ps.length)
    (body : ∀ (f : Addr) (cdv : Value) (A : Around) (outer : List PySem.Env) (s : Shared) (H : Hp) (vs : List V) (E : XK), Room k (A.deeper (envOfC x (defScope st) s.heap.objs.size f cdv)) →
      ∃ tb, PSs (cxOf (L2N.CX P w) P w K mg base N x (defScope st) f cdv A outer s H E) (defBody st) tb ∧ ∀ (M : List Addr) (t : Addr) (xs : List DV) (Pd : DV → Prop) (Q : VK), ok t xs Pd → StaT K M t H (L2.start N vs) (xs ++ List.replicate (N.length - xs.length) .z) →
        (∀ v y H', Pd y → Gr [t] H H' → TownAt t H' → VOk K (hid M H') v y → Q v H') → tb { nx := fun _ H' => Q .non H', rt := Q } (L2.start N vs) H) :
    FnIs P w K mg base (L2N.CX P w) (k + 1) x ps (spT K ok) := by
  obtain ⟨f, at_, ⟨oc, od, kV, doc, pm, an, cdv, ct, osl, lk, cd⟩, kp⟩ := d
  have F := fun_mk (st := st) lk cd kp
  refine ⟨f, _, okXN F S (fun vs H Q E h => ?_) (fun cdv A outer s H vs Q E hr h => ?_), hmg f at_, kp, F.binds hbind⟩
  · obtain ⟨M, t, xs, Pd, _, _, _, ha, h, _⟩ := h
    rw [ha.len]
    exact len t xs Pd h
  · obtain ⟨M, t, xs, Pd, tm, lv, tw, ha, h, q⟩ := h
    obtain ⟨tb, h1, h2⟩ := body f cdv A outer s H vs E hr
    exact ⟨tb, h1, h2 M t xs Pd Q h ⟨⟨lv, env_start ha⟩, tm, tw⟩ q⟩
end
end TD
set_option Elab.async false
set_option linter.all false
set_option maxRecDepth 100000
set_option maxHeartbeats 400000
/-! Sorting; dicts that the town fills. -/
namespace TD
open PySem PySem.Spec PyProof.Rows L2 TP
/-! ### sorted -/
def sortW (l : List W) : List W := l.mergeSort fun a b => decide (a ≤ b)
theorem sortW_perm (l : List W) : (sortW l).Perm l := List.mergeSort_perm _ _
theorem sortW_sorted (l : List W) : (sortW l).Pairwise (· ≤ ·) := by
  have := List.pairwise_mergeSort (le := fun (a b : W) => decide (a ≤ b)) (fun a b c h1 h2 => decide_eq_true (List.le_trans (of_decide_eq_true h1) (of_decide_eq_true h2)))
    (fun a b => by
      rcases List.le_total a b with h | h
      · rw [decide_eq_true h]; rfl
      · rw [decide_eq_true h, Bool.or_true]) l
  exact this.imp fun h => of_decide_eq_true h
theorem sorted_eq {l m : List W} (p : l.Perm m) (s : l.Pairwise (· ≤ ·)) : l = sortW m :=
  List.Perm.eq_of_pairwise (fun a b _ _ h1 h2 => List.le_antisymm h1 h2) s (sortW_sorted m) (p.trans (sortW_perm m).symm)
theorem ltCps_iff (a b : List Nat) : ltCps a b = decide (a < b) := by
  induction a generalizing b with
  | nil => cases b <;> simp [ltCps]
  | cons x a ih =>
    cases b with
    | nil => simp [ltCps]
    | cons y b =>
      rw [ltCps, ih]
      rw [Bool.eq_iff_iff]
      simp [List.cons_lt_cons_iff]
theorem risingS_le : ∀ (ys : List Str) (p : Str), risingS p ys = true → (∀ y ∈ ys, tl p ≤ tl y) ∧ (ys.map tl).Pairwise (· ≤ ·)
  | [], _, _ => ⟨fun _ h => by simp at h, .nil⟩
  | y :: ys, p, h => by
    have h' : (!ltCps (tl y) (tl p) && risingS y ys) = true := h
    rw [Bool.and_eq_true, ltCps_iff] at h'
    obtain ⟨h1, h2⟩ := h'
    have hpy : tl p ≤ tl y := List.not_lt.mp (by simpa using h1)
    obtain ⟨i1, i2⟩ := risingS_le ys y h2
    refine ⟨fun z hz => ?_, .cons (fun z hz => ?_) i2⟩
    · rcases List.mem_cons.mp hz with rfl | hz
      · exact hpy
      · exact List.le_trans hpy (i1 z hz)
    · obtain ⟨z', hz', rfl⟩ := List.mem_map.mp hz
      exact i1 z' hz'
theorem sortedS_le {ys : List Str} (h : sortedS ys = true) : (ys.map tl).Pairwise (· ≤ ·) := by
  cases ys with
  | nil => exact .nil
  | cons y ys =>
    obtain ⟨i1, i2⟩ := risingS_le ys y h
    refine .cons (fun z hz => ?_) i2
    obtain ⟨z', hz', rfl⟩ := List.mem_map.mp hz
    exact i1 z' hz'
section
variable {X : Cx}
def rSortD : List V → Hp → VK → Prop := fun xs H Q => ∃ (a : Addr) (kvs : List (Key × V)) (ks : List Str), xs = [.ref a] ∧ Rd H a (.dK kvs) ∧ kvs.map (·.1) = ks.map Sum.inr ∧ ks.length < 64 ∧
    ∀ ys p, ys.Perm ks → sortedS ys = true → H p = none → Q (.ref p) (upd H p (.lst (ys.map V.str)))
/-- sorted of a list of alike data -/
def rSortQ : List V → Hp → VK → Prop := fun xs H Q => ∃ (H0 : Hp) (a : Addr) (vs : List V) (ds : List D), xs = [.ref a] ∧ Same H0 H ∧ H a = some (.lst vs) ∧ DqAll H0 vs ds ∧ PySem.W.AllAlike ds ∧ PySem.W.Sortable ds ∧ (∀ d ∈ ds, d.depth ≤ 60) ∧
    ∀ vs' p, DqAll H0 vs' (ds.mergeSort (PySem.W.dataLe false id)) → H p = none → Q (.ref p) (upd H p (.lst vs'))
theorem each_q {H : Hp} : ∀ {vs : List V} {ds : List D} {us : List Value}, DqAll H vs ds → Vals vs us → PySem.W.EachIs (fun (u : Value) (d : D) => ∃ v, RelV v u ∧ Dq H v d) us ds
  | _, _, _, .nil, .nil => .nil
  | _, _, _, .cons h t, .cons r rs => .cons ⟨_, r, h⟩ (each_q t rs)
theorem q_each {H : Hp} : ∀ {us : List Value} {ds : List D}, PySem.W.EachIs (fun (u : Value) (d : D) => ∃ v, RelV v u ∧ Dq H v d) us ds → ∃ vs, Vals vs us ∧ DqAll H vs ds
  | _, _, .nil => ⟨[], .nil, .nil⟩
  | _, _, .cons ⟨v, r, h⟩ t => by
    obtain ⟨vs, r2, h2⟩ := q_each t
    exact ⟨v :: vs, .cons r r2, .cons h h2⟩
theorem call_sortQ (hu : X.A.units + 64 < cLine) : CallR X (.builtin "sorted") rSortQ := by
  intro pins s σ H xs us Q I r h
  obtain ⟨H0, a, vs, ds, rfl, h0, ha, hd, hal, hs, hz, q⟩ := h
  obtain ⟨u, rfl, rx⟩ := vals1 r
  cases rx
  obtain ⟨its, rv, pl, hlen⟩ := I.list (.inl (.inl ha))
  have e := each_q hd rv
  have er : PySem.W.EachIs (fun (v : Value) (b : D) => ∃ as, Reads s.heap v (id b) as) its ds := e.mono fun u d ⟨v, r, h⟩ => rd_q I (dq_mono h0 _ _ h) r
  have em : ds.map id = ds := List.map_id _
  refine PySem.W.sorted_data (enc := id) (vs := its) pl.isList e er (by rw [em]; exact hal) (by rw [em]; exact hs) (by rw [← dqAll_len hd]; exact hlen) (fun b hb => by
    have := hz b hb
    show X.A.units + 2 + b.depth < cLine
    omega) fun out ho eo => ?_
  obtain ⟨vs', r2, h2⟩ := q_each eo
  obtain ⟨ep, he'⟩ := PyProof.Rows.sortedAll_at s.heap its out.toArray
  exact ⟨.ref _, upd H (s.heap.objs.size + 1) (.lst vs'), I.laid (t' := s.toks) (fun _ _ => PyProof.Rows.sortedAll_old) (Nat.le_succ _) ⟨by rw [r2.length, ho, ← dqAll_len hd]; exact hlen, out, ep, r2, he'⟩, rfl, q vs' _ h2 (I.hok.fresh (Nat.le_succ _))⟩
def rSortU : List V → Hp → VK → Prop := fun xs H Q => rSortD xs H Q ∨ rSortQ xs H Q
theorem call_sortedU (hc : X.calm = true) (hu : X.A.units + 64 < cLine) : CallR X (.builtin "sorted") rSortU := CallR.or (call_sortedD hc) (call_sortQ hu)
end
section
variable {c : Cz} {K : PySem.W.Frag}
theorem map_tl_sw (l : List W) : (l.map sw).map tl = l := by
  rw [List.map_map]
  have : (tl ∘ sw) = (id : W → W) := by funext x; exact tl_sw x
  rw [this, List.map_id]
theorem map_sw_tl (l : List Str) : (l.map tl).map sw = l := by
  rw [List.map_map]
  have : (sw ∘ tl) = (id : Str → Str) := by funext x; exact sw_tl x
  rw [this, List.map_id]
theorem dqAll_ws {H : Hp} : ∀ l : List W, DqAll H (l.map fun w => V.str (sw w)) (l.map ds)
  | [] => .nil
  | a :: l => .cons (.str _) (dqAll_ws l)
theorem rc_sortT {t : Tb} (h : t.length < 64) : RCX c rSortU [.k (encT t)] (.d (encW (sortW (t.map (·.1))))) := fun H1 g lv vs ha Q q => by
  obtain ⟨v, rfl, o⟩ := args1 ha
  obtain ⟨a, kv, rfl, h1, h2⟩ := o
  have ek : kv.map (·.1) = ((t.map (·.1)).map sw).map Sum.inr := by
    have : ∀ {kv : List (Key × V)} {t : Tb}, KD (hid c.M H1) kv (encT t) → kv.map (·.1) = ((t.map (·.1)).map sw).map Sum.inr := by
      intro kv t
      induction t generalizing kv with
      | nil => intro h; cases h; rfl
      | cons p t ih =>
        intro h
        cases h with
        | cons hh tt => rw [List.map_cons, ih tt, hh.1]; rfl
    exact this h2
  refine .inl ⟨a, kv, (t.map (·.1)).map sw, rfl, .inl (hid_some h1).2, ek, by rw [List.length_map, List.length_map]; exact h, fun ys p hp hs hn => q _ _ (same_new hn _) ?_⟩
  have e : ys.map tl = sortW (t.map (·.1)) := sorted_eq (by have := hp.map tl; rwa [map_tl_sw] at this) (sortedS_le hs)
  have e2 : ys = (sortW (t.map (·.1))).map sw := by rw [← e, map_sw_tl]
  rw [e2, List.map_map]
  exact new_lst lv hn (dqAll_ws _)
/-- sorted of a list of texts -/
theorem rc_sortW {l : List W} : RCX c rSortU [.d (encW l)] (.d (encW (sortW l))) := fun H1 g lv vs ha Q q => by
  obtain ⟨v, rfl, o⟩ := args1 ha
  obtain ⟨a, ws, rfl, h1, h2⟩ := dq_list o
  have hm : ∀ d ∈ l.map ds, ∃ w, d = ds w := fun d hd => by obtain ⟨w, _, rfl⟩ := List.mem_map.mp hd; exact ⟨w, rfl⟩
  refine .inr ⟨hid c.M H1, a, ws, l.map ds, rfl, hid_le, (hid_some h1).2, h2, fun d hd d' hd' => ?_, .inr fun d hd => ?_, fun d hd => ?_, fun vs' p hv hn => q _ _ (same_new hn _) (new_lst lv hn ?_)⟩
  · obtain ⟨w, rfl⟩ := hm d hd
    obtain ⟨w', rfl⟩ := hm d' hd'
    rfl
  · obtain ⟨w, rfl⟩ := hm d hd
    exact ⟨fun z => by (cases z), fun xs z => by (cases z)⟩
  · obtain ⟨w, rfl⟩ := hm d hd
    exact Nat.zero_le _
  · have e : (l.map ds).mergeSort (PySem.W.dataLe false id) = (sortW l).map ds := by
      unfold sortW
      refine (List.map_mergeSort fun a _ b _ => ?_).symm
      rw [PySem.W.dataLe_eq]
      show decide (a ≤ b) = !PySem.W.dataLt (ds b) (ds a)
      rw [PySem.W.dataLt_str]
      show decide (a ≤ b) = !decide (tl (sw b) < tl (sw a))
      rw [tl_sw, tl_sw, Bool.eq_iff_iff]
      simp [List.not_lt]
    rw [e] at hv; exact hv
end
end TD
set_option Elab.async false
set_option linter.all false
set_option maxRecDepth 100000
set_option maxHeartbeats 400000
/-! Dicts and loops under the town. -/
namespace TD
open PySem PySem.Spec PyProof.Rows L2 TP
section
variable {K : PySem.W.Frag} {M : List Addr} {t : Addr} {H : Hp} {σ : L2.St} {ρ : List DV} {D : Ends} {te td ty : TE} {tl : TA} {wi : TI} {g : TG} {tt : TT} {tu tw tz : TS} {i : Nat} {P : DV → Prop}
theorem StaT.push {p : Addr} {o : HO} (s : StaT K M t H σ ρ) (hp : H p = none) : StaT K (p :: M) t (upd H p o) σ ρ := ⟨s.sta.push hp, List.mem_cons_of_mem _ s.tm, s.tw.same (same_new hp _)⟩
/-- name = dict(pairs), the pairs are drawn -/
theorem qt_newD {Pk : Sc → Prop} (s : StaT K M t H σ ρ) (h : EvAT (czT K M t H) t tl ρ fun l => ∃ kvs : Sc, l = [.d (.list (kvs.map encP))] ∧ Pk kvs)
    (k : ∀ p kvs σ' H', Pk kvs → H p = none → p ∉ M → Gr [t] H H' → StaT K (p :: M) t H' σ' (ρ.set i (.v (.ref p))) → MK (p :: M) H' p (encT (writeT kvs)) → tz D σ' H') : tSeq (tAsg (tCB (rDictP K) tl) (gName i)) tz D σ H :=
  h s.n H σ s.at s.tw _ fun vs l H2 pk g w o => by
    obtain ⟨kvs, rfl, pk⟩ := pk
    obtain ⟨v, rfl, o'⟩ := args1 o
    obtain ⟨a, ws, rfl, h1, h2⟩ := dq_list o'
    have ep : kvs.map encP = (kvs.map fun p => ((Sum.inr (sw p.1) : Key), ds p.2)).map pairD := by rw [List.map_map]; rfl
    rw [ep] at h2
    obtain ⟨kv, p1, p2⟩ := pairs_q (K := K) h2
    refine ⟨a, ws, kv, rfl, .inl (sqL_of h1), p1, fun p hp => ?_⟩
    have s2 := s.gro g w
    have nm : p ∉ M := s2.sta.lv.new hp
    have hH : H p = none := by
      cases e : H p with
      | none => rfl
      | some o =>
        by_cases q : p = t
        · obtain ⟨_, _, _, _, e2⟩ := w; rw [q, e2] at hp; cases hp
        · rw [g p o (by simpa using q) e] at hp; cases hp
    have sn := same_new hp (HO.dK (mergeK [] kv))
    refine k p kvs _ _ pk hH nm (g.trans (Same.gr sn)) ((s2.push hp).set (x := .v (.ref p)) rfl) ⟨List.mem_cons_self, _, upd_same, ?_⟩
    have e := kmerge_enc [] kvs
    have e2 : (encT ([] : Tb)) = [] := rfl
    rw [e2] at e
    have m := kd_merge p2 (.nil : KD (hid M H2) [] [])
    rw [e] at m
    exact m.mono (hid_new hp sn)
/-- p[e] = f, both drawn -/
theorem st_dput {Pv Pk : W → Prop} {p : Addr} {tb : Tb} (s : StaT K M t H σ ρ) (m : MK M H p (encT tb)) (hpt : p ≠ t) (ho : EvX (czT K M t H) td ρ (.v (.ref p))) (he : EvT (czT K M t H) t ty ρ fun x => ∃ w, x = .d (ds w) ∧ Pk w) (hf : EvT (czT K M t H) t te ρ fun x => ∃ w, x = .d (ds w) ∧ Pv w) (hz : tb.length ≤ 1000000)
    (k : ∀ kw vw H', Pk kw → Pv vw → Gr [p, t] H H' → StaT K M t H' σ ρ → MK M H' p (encT (put tb kw vw)) → D.nx σ H') : sDPut td ty te D σ H :=
  hf s.n H σ s.at s.tw _ fun w x H2 p2 g2 w2 o2 => by
    obtain ⟨vw, rfl, pv⟩ := p2
    have a2 := s.at.gro s.n g2 w2
    refine ho H2 σ a2 _ fun v H3 s3 o3 => ?_
    obtain rfl : v = V.ref p := o3
    refine he s.n H3 σ (a2.same s3) (w2.same s3) _ fun u y H4 p4 g4 w4 o4 => ?_
    obtain ⟨kw, rfl, pk⟩ := p4
    have ekw := dq_str o4
    subst ekw
    have evw := dq_str o2
    subst evw
    obtain ⟨mp, kv, a, b⟩ := m
    have np : p ∉ [t] := by simpa using hpt
    have g24 : Gr [t] H H4 := (g2.trans (Same.gr s3)).trans g4
    have e4 : H4 p = some (.dK kv) := g24 _ _ np a
    have b4 : KD (hid M H4) kv (encT tb) := b.mono (Gr.hidT s.n g24)
    have hl : kv.length ≤ 1000000 := by rw [Paired.length b]; simpa using hz
    refine ⟨p, _, rfl, DPut.k (k := Sum.inr (sw kw)) e4 (Nat.lt_of_le_of_lt hl (by decide)), ?_⟩
    have st4 := s.gro g24 w4
    have e : hid M (upd H4 p (.dK (putK kv (.inr (sw kw)) (.str (sw vw))))) = hid M H4 := hid_upd_in mp
    refine k kw vw _ pk pv (fun b o n eb => ?_) ⟨st4.sta.write mp, s.tm, ?_⟩ ⟨mp, _, upd_same, ?_⟩
    · rw [upd_ne (by simp at n; exact n.1)]; exact g24 _ _ (by simp at n ⊢; exact n.2) eb
    · obtain ⟨q1, q2, h1, h2, h3⟩ := w4
      exact ⟨q1, q2, h1, h2, by rw [upd_ne (Ne.symm hpt)]; exact h3⟩
    · rw [e, ← kput_enc]; exact kd_put b4 _ (.str _)
theorem qt_dput {Pv Pk : W → Prop} {p : Addr} {tb : Tb} (s : StaT K M t H σ ρ) (m : MK M H p (encT tb)) (hpt : p ≠ t) (ho : EvX (czT K M t H) td ρ (.v (.ref p))) (he : EvT (czT K M t H) t ty ρ fun x => ∃ w, x = .d (ds w) ∧ Pk w) (hf : EvT (czT K M t H) t te ρ fun x => ∃ w, x = .d (ds w) ∧ Pv w) (hz : tb.length ≤ 1000000)
    (k : ∀ kw vw H', Pk kw → Pv vw → Gr [p, t] H H' → StaT K M t H' σ ρ → MK M H' p (encT (put tb kw vw)) → tz D σ H') : tSeq (sDPut td ty te) tz D σ H := st_dput (D := { D with nx := tz D }) s m hpt ho he hf hz k
/-- shown again -/
theorem unhideK {p : Addr} {kvs : List (Key × PyData)} (s : StaT K (p :: M) t H σ ρ) (np : p ∉ M) (hpt : p ≠ t) (m : MK (p :: M) H p kvs) (h : ρ[i]? = some (.v (.ref p))) : StaT K M t H σ (ρ.set i (.k kvs)) := by
  have d := m.data (K := K) (M' := M) (fun b hb => List.mem_cons_of_mem _ hb) np
  refine ⟨⟨fun b hb => s.sta.lv b (List.mem_cons_of_mem _ hb), ?_⟩, ?_, s.tw⟩
  · obtain ⟨v, e1, e2⟩ := s.sta.env.get h (by intro z; cases z)
    obtain rfl : v = V.ref p := e2
    have := (s.sta.env.mono (hid_cons (M := M))).set i (SOk.of (x := .k kvs) d)
    have e3 : σ.set i (some (.ref p)) = σ := by
      apply List.ext_getElem?
      intro j
      rw [List.getElem?_set]
      split
      · rename_i q; subst q; rw [e1]; split
        · rfl
        · rename_i q2; rw [List.getElem?_eq_none (by omega)] at e1; cases e1
      · rfl
    rw [e3] at this; exact this
  · rcases List.mem_cons.mp s.tm with e | e
    · exact absurd e.symm hpt
    · exact e
/-- a loop whose source is drawn -/
theorem st_for {α : Type} {it : α → IV} {js : List Nat} {up : α → List DV → List DV} {Py : List α → Prop} (s : StaT K M t H σ ρ) (hi : EvIT (czT K M t H) t wi ρ fun its => ∃ ys : List α, Py ys ∧ its = ys.map it) (hg : ∀ y ρ', GOk K js g (it y) ρ' (up y ρ'))
    (Pv : List α → Nat → List DV → Hp → Prop) (h0 : ∀ ys H1, Py ys → Gr [t] H H1 → TownAt t H1 → Pv ys 0 ρ H1)
    (hs : ∀ ys i y σ' ρ' H' H3 Hb, Py ys → ys[i]? = some y → Same (hid M H) (hid M Hb) → Same (hid M Hb) (hid M H') → Pv ys i ρ' H' → Same H' H3 → Sta K M H3 σ' (up y ρ') → tu { D with nx := LS K M (Pv ys (i + 1)) Hb, ct := LS K M (Pv ys (i + 1)) Hb, bk := D.nx } σ' H3)
    (hd : ∀ ys σ' ρ' H', Py ys → Same (hid M H) (hid M H') → Sta K M H' σ' ρ' → Pv ys ys.length ρ' H' → D.nx σ' H') : tFor wi g tu D σ H := hi s.n H σ s.at s.tw _ fun J H1 its ⟨ys, py, e⟩ gr wt ok => by
  subst e
  have hl : (ys.map it).length = ys.length := List.length_map _
  have s1' : Same (hid M H) (hid M H1) := Gr.hidT s.n gr
  refine ⟨fun i m σ' H' => m = ys.length - i ∧ i ≤ ys.length ∧ Same (hid M H1) (hid M H') ∧ ∃ ρ', Sta K M H' σ' ρ' ∧ Pv ys i ρ' H', ⟨_, rfl, Nat.zero_le _, Same.refl _, ρ, (s.gro gr wt).sta, h0 ys H1 py gr wt⟩, ?_⟩
  rintro i m σ' H' ⟨rfl, hi', sm, ρ', st, pv⟩
  by_cases hlt : i < ys.length
  · refine .inr ⟨ok.go M i H' sm st.lv (by rw [hl]; exact hlt), LS K M (Pv ys (i + 1)) H1, ?_, fun v H3 y => ?_⟩
    · rintro σ'' H'' ⟨ρ'', s5, st5, pv5⟩
      exact ⟨ys.length - (i + 1), by omega, rfl, hlt, s5, ρ'', st5, pv5⟩
    · obtain ⟨s4, itv, f1, f2⟩ := ok.yld M i H' v H3 sm st.lv (by rw [hl]; exact hlt) y
      obtain ⟨x, hx, rfl⟩ : ∃ x, ys[i]? = some x ∧ it x = itv := by
        rw [List.getElem?_map] at f1
        cases h : ys[i]? with
        | none => rw [h] at f1; cases f1
        | some x => rw [h] at f1; exact ⟨x, rfl, Option.some.inj f1⟩
      have st3 := st.same s4
      refine hg x ρ' M H3 σ' v _ st3.env f2 fun σ2 e2 _ => ?_
      exact hs ys i x σ2 ρ' H' H3 H1 py hx s1' sm pv s4 ⟨st3.lv, e2⟩
  · have e : i = ys.length := by omega
    subst e
    exact .inl ⟨ok.stop M _ H' sm st.lv (by rw [hl]; exact Nat.le_refl _), hd ys σ' ρ' H' py (s1'.trans sm) st pv⟩
theorem qt_for {α : Type} {it : α → IV} {js : List Nat} {up : α → List DV → List DV} {Py : List α → Prop} (s : StaT K M t H σ ρ) (hi : EvIT (czT K M t H) t wi ρ fun its => ∃ ys : List α, Py ys ∧ its = ys.map it) (hg : ∀ y ρ', GOk K js g (it y) ρ' (up y ρ'))
    (Pv : List α → Nat → List DV → Hp → Prop) (h0 : ∀ ys H1, Py ys → Gr [t] H H1 → TownAt t H1 → Pv ys 0 ρ H1)
    (hs : ∀ ys i y σ' ρ' H' H3 Hb, Py ys → ys[i]? = some y → Same (hid M H) (hid M Hb) → Same (hid M Hb) (hid M H') → Pv ys i ρ' H' → Same H' H3 → Sta K M H3 σ' (up y ρ') → tu { D with nx := LS K M (Pv ys (i + 1)) Hb, ct := LS K M (Pv ys (i + 1)) Hb, bk := tz D } σ' H3)
    (hd : ∀ ys σ' ρ' H', Py ys → Same (hid M H) (hid M H') → Sta K M H' σ' ρ' → Pv ys ys.length ρ' H' → tz D σ' H') : tSeq (tFor wi g tu) tz D σ H := st_for (D := { D with nx := tz D }) s hi hg Pv h0 hs hd
end
section
variable {c : Cz} {t : Addr} {ρ : List DV} {ta : TE} {ta2 : TA}
/-- one drawn argument -/
theorem eat_one {P : DV → Prop} (h : EvT c t ta ρ P) : EvAT c t (tCons ta tNil) ρ (fun l => ∃ x, l = [x] ∧ P x) := fun n H1 σ a w Q q => eat_cons h eat_nil n H1 σ a w Q fun vs l H2 p g w2 o => by
  obtain ⟨x, xs, rfl, px, rfl⟩ := p
  exact q vs _ H2 ⟨x, rfl, px⟩ g w2 o
theorem EvAT.imp {P P' : List DV → Prop} (h : EvAT c t ta2 ρ P) (i : ∀ x, P x → P' x) : EvAT c t ta2 ρ P' := fun n H1 σ a w Q q => h n H1 σ a w Q fun v x H2 p g w2 o => q v x H2 (i x p) g w2 o
theorem EvIT.imp {wi : TI} {P P' : List IV → Prop} (h : EvIT c t wi ρ P) (i : ∀ x, P x → P' x) : EvIT c t wi ρ P' := fun n H1 σ a w R r => h n H1 σ a w R fun J H2 its p g w2 ok => r J H2 its (i its p) g w2 ok
end
end TD
namespace TD
open PySem PySem.Spec PyProof.Rows L2 TP
theorem flat_sing (cs : List Nat) : (cs.map fun c => [c]).flatten = cs := by
  induction cs with
  | nil => rfl
  | cons c cs ih => rw [List.map_cons, List.flatten_cons, ih]; rfl
theorem paired_chars {α : Type} {l : W} {ys : List α} {zs : List D} (p : Paired (fun _ d => ∃ c, c ∈ l ∧ d = ds [c]) ys zs) : ∃ cs : W, zs = cs.map (fun c => ds [c]) ∧ cs.length = ys.length ∧ ∀ c ∈ cs, c ∈ l := by
  induction p with
  | nil => exact ⟨[], rfl, rfl, by simp⟩
  | cons h _ ih =>
    obtain ⟨c, hc, rfl⟩ := h
    obtain ⟨cs, rfl, e, m⟩ := ih
    exact ⟨c :: cs, rfl, by rw [List.length_cons, List.length_cons, e], fun d hd => by
      rcases List.mem_cons.mp hd with rfl | hd
      · exact hc
      · exact m d hd⟩
end TD
set_option Elab.async false
set_option linter.all false
set_option maxRecDepth 100000
set_option maxHeartbeats 400000
/-! Drawn schemes, plainly. -/
namespace TP
open PySem TD L2
/-- a table over the letters l with targets over g -/
structure Tbl (l g : W) (tb : Tb) : Prop where
  nodup : (tb.map (·.1)).Nodup
  keys : ∀ p ∈ tb, 1 ≤ p.1.length ∧ p.1.length ≤ 3 ∧ ∀ c ∈ p.1, c ∈ l
  vals : ∀ p ∈ tb, 1 ≤ p.2.length ∧ p.2.length ≤ 3 ∧ ∀ c ∈ p.2, c ∈ g
theorem put_keys (tb : Tb) (k v : W) : (put tb k v).map (·.1) = if k ∈ tb.map (·.1) then tb.map (·.1) else tb.map (·.1) ++ [k] := by
  unfold put
  have e : (tb.any fun p => decide (p.1 = k)) = decide (k ∈ tb.map (·.1)) := by
    rw [Bool.eq_iff_iff, List.any_eq_true, decide_eq_true_iff, List.mem_map]
    constructor
    · rintro ⟨p, hp, h⟩; exact ⟨p, hp, by simpa using h⟩
    · rintro ⟨p, hp, h⟩; exact ⟨p, hp, by simpa using h⟩
  rw [e]
  by_cases h : k ∈ tb.map (·.1)
  · rw [if_pos (by simpa using h), if_pos h, List.map_map]
    apply List.map_congr_left
    intro p _
    show (if p.1 = k then (p.1, v) else p).1 = p.1
    split <;> rfl
  · rw [if_neg (by simpa using h), if_neg h, List.map_append]; rfl
theorem put_length (tb : Tb) (k v : W) : (put tb k v).length ≤ tb.length + 1 := by
  have := congrArg List.length (put_keys tb k v)
  rw [List.length_map] at this
  split at this
  · rw [List.length_map] at this; omega
  · rw [List.length_append, List.length_map] at this; simp at this; omega
theorem Tbl.put {l g : W} {tb : Tb} {k v : W} (h : Tbl l g tb) (hk : 1 ≤ k.length ∧ k.length ≤ 3 ∧ ∀ c ∈ k, c ∈ l) (hv : 1 ≤ v.length ∧ v.length ≤ 3 ∧ ∀ c ∈ v, c ∈ g) : Tbl l g (TP.put tb k v) where
  nodup := by
    rw [put_keys]
    split
    · exact h.nodup
    · rename_i q
      rw [List.nodup_append]
      refine ⟨h.nodup, by simp, fun a ha b hb => ?_⟩
      simp at hb; subst hb; exact fun z => q (by rw [← z]; exact ha)
  keys := fun p hp => by
    rcases put_mem hp with h' | h'
    · exact h.keys p h'
    · rw [h'.2]; exact hk
  vals := fun p hp => by
    rcases put_mem hp with h' | h'
    · exact h.vals p h'
    · rw [h'.1]; exact hv
theorem put_has {tb : Tb} {k v a : W} (h : a ∈ tb.map (·.1)) : a ∈ (put tb k v).map (·.1) := by
  rw [put_keys]
  split
  · exact h
  · exact List.mem_append_left _ h
theorem put_new (tb : Tb) (k v : W) : k ∈ (put tb k v).map (·.1) := by
  rw [put_keys]
  split
  · assumption
  · exact List.mem_append_right _ (by simp)
theorem writeT_tbl {l g : W} {s : Sc} (h : ∀ p ∈ s, (1 ≤ p.1.length ∧ p.1.length ≤ 3 ∧ ∀ c ∈ p.1, c ∈ l) ∧ (1 ≤ p.2.length ∧ p.2.length ≤ 3 ∧ ∀ c ∈ p.2, c ∈ g)) : Tbl l g (writeT s) ∧ (writeT s).length ≤ s.length ∧ ∀ p ∈ s, p.1 ∈ (writeT s).map (·.1) := by
  unfold writeT
  have : ∀ (s : Sc) (t : Tb), (∀ p ∈ s, (1 ≤ p.1.length ∧ p.1.length ≤ 3 ∧ ∀ c ∈ p.1, c ∈ l) ∧ (1 ≤ p.2.length ∧ p.2.length ≤ 3 ∧ ∀ c ∈ p.2, c ∈ g)) → Tbl l g t → Tbl l g (s.foldl (fun t p => put t p.1 p.2) t) ∧ (s.foldl (fun t p => put t p.1 p.2) t).length ≤ t.length + s.length ∧
      (∀ a, a ∈ t.map (·.1) → a ∈ (s.foldl (fun t p => put t p.1 p.2) t).map (·.1)) ∧ ∀ p ∈ s, p.1 ∈ (s.foldl (fun t p => put t p.1 p.2) t).map (·.1) := by
    intro s
    induction s with
    | nil => intro t _ ht; exact ⟨ht, by simp, fun _ h => h, fun _ h => by simp at h⟩
    | cons p s ih =>
      intro t hs ht
      have hp := hs p List.mem_cons_self
      obtain ⟨i1, i2, i3, i4⟩ := ih (put t p.1 p.2) (fun q hq => hs q (List.mem_cons_of_mem _ hq)) (ht.put hp.1 hp.2)
      rw [List.foldl_cons]
      have := put_length t p.1 p.2
      refine ⟨i1, by rw [List.length_cons]; omega, fun a ha => i3 a (put_has ha), fun q hq => ?_⟩
      rcases List.mem_cons.mp hq with rfl | hq
      · exact i3 _ (put_new _ _ _)
      · exact i4 q hq
  obtain ⟨a, b, _, d⟩ := this s [] h ⟨.nil, fun _ h => by simp at h, fun _ h => by simp at h⟩
  exact ⟨a, by simpa using b, d⟩
/-- the scheme of a table -/
def ofT (tb : Tb) : Sc := (sortW (tb.map (·.1))).map fun w => (w, val tb w)
theorem ofT_src (tb : Tb) : (ofT tb).map (·.1) = sortW (tb.map (·.1)) := by
  unfold ofT; rw [List.map_map]
  exact List.map_id _
theorem asc_of {S : List W} (h : S.Pairwise (· ≤ ·)) (n : S.Nodup) : ascending S = true := by
  induction S with
  | nil => rfl
  | cons a S ih =>
    cases S with
    | nil => rfl
    | cons b S =>
      have h1 : a ≤ b := List.rel_of_pairwise_cons h List.mem_cons_self
      have h2 : a ≠ b := fun z => (List.nodup_cons.mp n).1 (by rw [z]; exact List.mem_cons_self)
      have h3 : a < b := by
        rcases Decidable.em (a < b) with q | q
        · exact q
        · exact absurd (List.le_antisymm h1 (List.not_lt.mp q)) h2
      show (decide (a < b) && ascending (b :: S)) = true
      rw [decide_eq_true h3, ih (List.Pairwise.of_cons h) (List.nodup_cons.mp n).2]; rfl
/-- a drawn scheme: over the letters l, with targets over g -/
structure Made (l g : W) (s : Sc) : Prop where
  ok : Scheme s
  lets : ∀ c, [c] ∈ s.map (·.1) ↔ c ∈ l
  src : ∀ p ∈ s, ∀ c ∈ p.1, c ∈ l
  tgt : ∀ p ∈ s, ∀ c ∈ p.2, c ∈ g
theorem ofT_made {l g : W} {tb : Tb} (h : Tbl l g tb) (hl : ∀ c ∈ l, c ∈ lowers) (hg : ∀ c ∈ g, c ∈ lowers) (h1 : 1 ≤ tb.length) (h10 : tb.length ≤ 10) (ha : ∀ c ∈ l, [c] ∈ tb.map (·.1)) : Made l g (ofT tb) := by
  have hlen : (ofT tb).length = tb.length := by
    unfold ofT; rw [List.length_map, (sortW_perm _).length_eq, List.length_map]
  have mem : ∀ w, w ∈ (ofT tb).map (·.1) ↔ w ∈ tb.map (·.1) := fun w => by rw [ofT_src]; exact (sortW_perm _).mem_iff
  have ent : ∀ p ∈ ofT tb, ∃ q ∈ tb, p.1 = q.1 ∧ ∃ q' ∈ tb, p.2 = q'.2 := fun p hp => by
    unfold ofT at hp
    obtain ⟨w, hw, rfl⟩ := List.mem_map.mp hp
    have hw' := (sortW_perm _).mem_iff.mp hw
    obtain ⟨q, hq, e⟩ := List.mem_map.mp hw'
    have gs := get_val (get_isSome.mpr hw')
    exact ⟨q, hq, e.symm, _, get_mem gs, rfl⟩
  have src : ∀ p ∈ ofT tb, 1 ≤ p.1.length ∧ p.1.length ≤ 3 ∧ ∀ c ∈ p.1, c ∈ l := fun p hp => by
    obtain ⟨q, hq, e, _⟩ := ent p hp
    rw [e]; exact h.keys q hq
  have tgt : ∀ p ∈ ofT tb, 1 ≤ p.2.length ∧ p.2.length ≤ 3 ∧ ∀ c ∈ p.2, c ∈ g := fun p hp => by
    obtain ⟨_, _, _, q, hq, e⟩ := ent p hp
    rw [e]; exact h.vals q hq
  have nd : (sortW (tb.map (·.1))).Nodup := (sortW_perm _).nodup_iff.mpr h.nodup
  refine ⟨⟨by omega, by omega, fun p hp => ⟨(src p hp).1, (src p hp).2.1⟩, fun p hp => ⟨(tgt p hp).1, (tgt p hp).2.1⟩, fun p hp => ?_, fun p hp => ?_, ?_, ?_⟩, fun c => ?_, fun p hp => (src p hp).2.2, fun p hp => (tgt p hp).2.2⟩
  · rw [List.all_eq_true]; intro c hc; exact decide_eq_true (hl c ((src p hp).2.2 c hc))
  · rw [List.all_eq_true]; intro c hc; exact decide_eq_true (hg c ((tgt p hp).2.2 c hc))
  · rw [ofT_src]; exact asc_of (sortW_sorted _) nd
  · unfold lettersIn
    rw [List.all_eq_true]
    intro w hw
    rw [List.all_eq_true]
    intro c hc
    obtain ⟨p, hp, rfl⟩ := List.mem_map.mp hw
    exact decide_eq_true ((mem _).mpr (ha c ((src p hp).2.2 c hc)))
  · rw [mem]
    constructor
    · intro hc
      obtain ⟨p, hp, e⟩ := List.mem_map.mp hc
      exact (h.keys p hp).2.2 c (by rw [e]; simp)
    · exact ha c
theorem paired_pairs {P : Nat → W → Prop} {l : W} {zs : List D} (p : Paired (fun c d => ∃ w, d = encP ([c], w) ∧ P c w) l zs) : ∃ kvs : Sc, zs = kvs.map encP ∧ kvs.map (·.1) = l.map (fun c => [c]) ∧ ∀ q ∈ kvs, ∃ c ∈ l, q.1 = [c] ∧ P c q.2 := by
  induction p with
  | nil => exact ⟨[], rfl, rfl, by simp⟩
  | @cons c d l zs h _ ih =>
    obtain ⟨w, rfl, hw⟩ := h
    obtain ⟨kvs, rfl, e, m⟩ := ih
    refine ⟨([c], w) :: kvs, rfl, by rw [List.map_cons, e]; rfl, fun q hq => ?_⟩
    rcases List.mem_cons.mp hq with rfl | hq
    · exact ⟨c, List.mem_cons_self, rfl, hw⟩
    · obtain ⟨c', h1, h2⟩ := m q hq
      exact ⟨c', List.mem_cons_of_mem _ h1, h2⟩
end TP
theorem TD.units1 {n : Nat} (h : n + 64 < PySem.cLine) : n + 1 < PySem.cLine := by omega
set_option Elab.async false
set_option linter.all false
set_option maxRecDepth 100000
set_option maxHeartbeats 400000
/-! Least and greatest. -/
namespace TD
open PySem PySem.Spec PyProof.Rows L2 TP
section
variable {X : Cx}
def rExQ (f : D → List D → D) : List V → Hp → VK → Prop := fun xs H Q => ∃ (H0 : Hp) (a : Addr) (vs : List V) (x : D) (ys : List D), xs = [.ref a] ∧ Same H0 H ∧ H a = some (.lst vs) ∧ DqAll H0 vs (x :: ys) ∧ PySem.W.AlikeAll (x :: ys) ∧ PyData.depthAll (x :: ys) ≤ 60 ∧ ∀ v, Dq H0 v (f x ys) → Q v H
theorem ex_fin {pins : List (Addr × Obj)} {σ : L2.St} {H : Hp} {s : Shared} {Q : VK} {H0 : Hp} {vs : List V} {its : List Value} {ds : List D} {m : D} {i : Nat} {u : Value} {h' : Heap} {tk : Nat} {bs : List Addr} (I : Inv X pins σ H s) (s0 : Same H0 H) (hd : DqAll H0 vs ds) (rv : Vals vs its) (e : its[i]? = some u)
    (r : Reads h' u m bs) (k : ∀ b o, s.heap.get? b = some o → h'.get? b = some o) (q : ∀ v, Dq H0 v m → Q v H) : EP X pins σ Q u { s with heap := h', toks := tk } := by
  obtain ⟨v, d, ev, hv, rv', hm⟩ : ∃ v d, vs[i]? = some v ∧ Dq H0 v d ∧ RelV v u ∧ d ∈ ds := by
    have hi : i < vs.length := by rw [rv.length]; exact (List.getElem?_eq_some_iff.mp e).1
    obtain ⟨w, ew, rw'⟩ := rv.get (List.getElem?_eq_getElem hi)
    rw [e] at ew
    cases ew
    obtain ⟨d, e1, e2⟩ := dqAll_get hd (List.getElem?_eq_getElem hi)
    exact ⟨_, d, List.getElem?_eq_getElem hi, e2, rw', List.mem_of_getElem? e1⟩
  obtain ⟨as, r1⟩ := rd_q I (dq_mono s0 _ _ hv) rv'
  have r2 := PySem.W.reads_keeps k r1
  have e1 := PySem.SeqAt.plain_unique d m u _ _ (dq_plain _ _ hv) r2 r
  subst e1
  exact ⟨v, H, I.kept (t' := tk) k, rv', q v hv⟩
theorem call_minQ (hc : X.calm = true) (hu : X.A.units + 64 < cLine) : CallR X (.builtin "min") (rExQ PySem.W.minD) := by
  intro pins s σ H xs us Q I r h
  obtain ⟨H0, a, vs, x, ys, rfl, s0, ha, hd, hal, hz, q⟩ := h
  obtain ⟨u, rfl, rx⟩ := vals1 r
  cases rx
  obtain ⟨its, rv, pl, hlen⟩ := I.list (.inl (.inl ha))
  obtain ⟨as, ra⟩ := rdAll_q I (dqAll_mono s0 _ _ hd) rv
  exact PySem.W.min_list_data (I.ok.hd hc) pl.isList ra hal (by omega) fun i v h' tk bs e r k => ex_fin I s0 hd rv (by simpa using e) r k q
theorem call_maxQ (hc : X.calm = true) (hu : X.A.units + 64 < cLine) : CallR X (.builtin "max") (rExQ PySem.W.maxD) := by
  intro pins s σ H xs us Q I r h
  obtain ⟨H0, a, vs, x, ys, rfl, s0, ha, hd, hal, hz, q⟩ := h
  obtain ⟨u, rfl, rx⟩ := vals1 r
  cases rx
  obtain ⟨its, rv, pl, hlen⟩ := I.list (.inl (.inl ha))
  obtain ⟨as, ra⟩ := rdAll_q I (dqAll_mono s0 _ _ hd) rv
  exact PySem.W.max_list_data (I.ok.hd hc) pl.isList ra hal (by omega) fun i v h' tk bs e r k => ex_fin I s0 hd rv (by simpa using e) r k q
end
section
variable {c : Cz}
/-- a choice among the given -/
def Picks (f : D → List D → D) : Prop := ∀ x ys, f x ys ∈ x :: ys
theorem fold_pick (b : D → D → Bool) (x : D) (ys : List D) : (ys.foldl (fun a y => if b y a = true then y else a) x) ∈ x :: ys := by
  induction ys generalizing x with
  | nil => exact List.mem_cons_self
  | cons y ys ih =>
    rw [List.foldl_cons]
    split
    · exact List.mem_cons_of_mem _ (ih y)
    · rcases List.mem_cons.mp (ih x) with h | h
      · rw [h]; exact List.mem_cons_self
      · exact List.mem_cons_of_mem _ (List.mem_cons_of_mem _ h)
theorem rc_ex {f : D → List D → D} {x : D} {ys : List D} (hal : PySem.W.AlikeAll (x :: ys)) (hz : PyData.depthAll (x :: ys) ≤ 60) : RCX c (rExQ f) [.d (.list (x :: ys))] (.d (f x ys)) := fun H1 g lv vs ha Q q => by
  obtain ⟨v, rfl, o⟩ := args1 ha
  obtain ⟨a, ws, rfl, h1, h2⟩ := dq_list o
  exact ⟨hid c.M H1, a, ws, x, ys, rfl, hid_le, (hid_some h1).2, h2, hal, hz, fun v hv => q v H1 (Same.refl _) hv⟩
theorem alike_ws (l : List W) : PySem.W.AlikeAll (l.map ds) := by
  refine ⟨fun x hx y hy => ?_, fun x hx => ?_⟩
  · obtain ⟨_, _, rfl⟩ := List.mem_map.mp hx
    obtain ⟨_, _, rfl⟩ := List.mem_map.mp hy
    rfl
  · obtain ⟨_, _, rfl⟩ := List.mem_map.mp hx
    intro z; cases z
theorem depth_ws (l : List W) : PyData.depthAll (l.map ds) = 0 := by
  induction l with
  | nil => rfl
  | cons a l ih => show max 0 (PyData.depthAll (l.map ds)) = 0; rw [ih]; rfl
def minW (x : W) (ys : List W) : W := ys.foldl (fun a y => if y < a then y else a) x
theorem minD_ws (x : W) (ys : List W) : PySem.W.minD (ds x) (ys.map ds) = ds (minW x ys) := by
  unfold PySem.W.minD minW
  induction ys generalizing x with
  | nil => rfl
  | cons y ys ih =>
    rw [List.map_cons, List.foldl_cons, List.foldl_cons, PySem.W.dataLt_str]
    have e : (decide (tl (sw y) < tl (sw x)) = true) ↔ y < x := by rw [tl_sw, tl_sw]; simp
    by_cases h : y < x
    · rw [if_pos (e.mpr h), if_pos h]; exact ih y
    · rw [if_neg (fun z => h (e.mp z)), if_neg h]; exact ih x
theorem rc_minW {x : W} {ys : List W} : RCX c (rExQ PySem.W.minD) [.d (encW (x :: ys))] (.d (ds (minW x ys))) := by
  have := rc_ex (c := c) (f := PySem.W.minD) (x := ds x) (ys := ys.map ds) (alike_ws (x :: ys)) (by have := depth_ws (x :: ys); rw [List.map_cons] at this; omega)
  rw [minD_ws] at this; exact this
/-- the first of ascending words is the least -/
theorem minW_asc {x : W} {ys : List W} (h : (x :: ys).Pairwise (· < ·)) : minW x ys = x := by
  unfold minW
  have : ∀ ys : List W, (∀ y ∈ ys, x < y) → ys.foldl (fun a y => if y < a then y else a) x = x := by
    intro ys
    induction ys with
    | nil => intro _; rfl
    | cons y ys ih =>
      intro hy
      rw [List.foldl_cons, if_neg (fun z => List.lt_irrefl _ (List.lt_trans z (hy y List.mem_cons_self)))]
      exact ih fun z hz => hy z (List.mem_cons_of_mem _ hz)
  exact this ys fun y hy => List.rel_of_pairwise_cons h hy
/-- (length, word) -/
abbrev encL (p : Nat × W) : D := .tuple [.int p.1, ds p.2]
def ltL (a b : Nat × W) : Bool := decide (a.1 < b.1) || (decide (a.1 = b.1) && decide (a.2 < b.2))
end
end TD
set_option Elab.async false
set_option linter.all false
set_option maxRecDepth 100000
set_option maxHeartbeats 400000
/-! Reading, plainly. -/
namespace TD
open PySem PySem.Spec PyProof.Rows L2 TP
theorem dataLt_L (a b : Nat × W) : PySem.W.dataLt (encL a) (encL b) = ltL a b := by
  rw [PySem.W.dataLt_pair rfl rfl, PySem.W.dataLt_int, PySem.W.dataLt_str]
  have e1 : PyData.eqv (.int (a.1 : Int)) (.int (b.1 : Int)) = decide (a.1 = b.1) := by
    rw [Bool.eq_iff_iff]; simp [PyData.eqv]; omega
  have e2 := eqv_ds a.2 b.2
  rw [e1, e2]
  unfold ltL
  have e3 : (tl (sw a.2) < tl (sw b.2)) ↔ a.2 < b.2 := by rw [tl_sw, tl_sw]
  have e4 : decide (tl (sw a.2) < tl (sw b.2)) = decide (a.2 < b.2) := decide_eq_decide.mpr e3
  show (if decide (a.1 = b.1) = true then (if decide (a.2 = b.2) = true then false else decide (tl (sw a.2) < tl (sw b.2))) else decide ((a.1 : Int) < (b.1 : Int))) = _
  rw [e4]
  by_cases h : a.1 = b.1
  · by_cases h2 : a.2 = b.2
    · have : ¬ (a.2 < b.2) := by rw [h2]; exact List.lt_irrefl _
      simp [h, h2, List.lt_irrefl]
    · simp [h, h2]
  · simp [h]
def maxL (x : Nat × W) (ys : List (Nat × W)) : Nat × W := ys.foldl (fun a y => if ltL a y = true then y else a) x
theorem maxD_L (x : Nat × W) (ys : List (Nat × W)) : PySem.W.maxD (encL x) (ys.map encL) = encL (maxL x ys) := by
  unfold PySem.W.maxD maxL
  induction ys generalizing x with
  | nil => rfl
  | cons y ys ih =>
    rw [List.map_cons, List.foldl_cons, List.foldl_cons, dataLt_L]
    by_cases h : ltL x y = true
    · rw [if_pos h, if_pos h]; exact ih y
    · rw [if_neg h, if_neg h]; exact ih x
theorem maxL_spec (x : Nat × W) (ys : List (Nat × W)) : maxL x ys ∈ x :: ys ∧ ∀ y ∈ x :: ys, y.1 ≤ (maxL x ys).1 := by
  unfold maxL
  induction ys generalizing x with
  | nil => exact ⟨List.mem_cons_self, fun y hy => by simp at hy; rw [hy]; exact Nat.le_refl _⟩
  | cons y ys ih =>
    rw [List.foldl_cons]
    by_cases h : ltL x y = true
    · rw [if_pos h]
      obtain ⟨i1, i2⟩ := ih y
      refine ⟨List.mem_cons_of_mem _ i1, fun z hz => ?_⟩
      have hxy : x.1 ≤ y.1 := by
        unfold ltL at h
        simp only [Bool.or_eq_true, Bool.and_eq_true, decide_eq_true_eq] at h
        omega
      rcases List.mem_cons.mp hz with rfl | hz
      · exact Nat.le_trans hxy (i2 y List.mem_cons_self)
      · exact i2 z hz
    · rw [if_neg h]
      obtain ⟨i1, i2⟩ := ih x
      refine ⟨?_, fun z hz => ?_⟩
      · rcases List.mem_cons.mp i1 with e | e
        · rw [e]; exact List.mem_cons_self
        · exact List.mem_cons_of_mem _ (List.mem_cons_of_mem _ e)
      · have hxy : y.1 ≤ x.1 := by
          unfold ltL at h
          simp only [Bool.or_eq_true, Bool.and_eq_true, decide_eq_true_eq, not_or] at h
          omega
        rcases List.mem_cons.mp hz with rfl | hz
        · exact i2 z List.mem_cons_self
        · rcases List.mem_cons.mp hz with rfl | hz
          · exact Nat.le_trans hxy (i2 x List.mem_cons_self)
          · exact i2 z (List.mem_cons_of_mem _ hz)
theorem alike_L (l : List (Nat × W)) : PySem.W.AlikeAll (l.map encL) := by
  refine ⟨fun x hx y hy => ?_, fun x hx => ?_⟩
  · obtain ⟨_, _, rfl⟩ := List.mem_map.mp hx
    obtain ⟨_, _, rfl⟩ := List.mem_map.mp hy
    rfl
  · obtain ⟨_, _, rfl⟩ := List.mem_map.mp hx
    intro z; cases z
theorem depth_L (l : List (Nat × W)) : PyData.depthAll (l.map encL) ≤ 1 := by
  induction l with
  | nil => decide
  | cons a l ih =>
    show max (encL a).depth (PyData.depthAll (l.map encL)) ≤ 1
    have : (encL a).depth ≤ 1 := by simp [encL, PyData.depth, PyData.depthAll]
    omega
theorem rc_maxL {c : Cz} {x : Nat × W} {ys : List (Nat × W)} : RCX c (rExQ PySem.W.maxD) [.d (.list ((x :: ys).map encL))] (.d (encL (maxL x ys))) := by
  have := rc_ex (c := c) (f := PySem.W.maxD) (x := encL x) (ys := ys.map encL) (alike_L (x :: ys)) (by have := depth_L (x :: ys); rw [List.map_cons] at this; omega)
  rw [maxD_L] at this; exact this
end TD
namespace TP
open PySem TD L2
theorem longestN_top {t : Tb} {x : W} : ∀ {n : Nat}, n ≤ x.length → (∀ k, longestN t x n = some k → ∀ m, k.length < m → m ≤ n → get t (x.take m) = none) ∧ (longestN t x n = none → ∀ m, 1 ≤ m → m ≤ n → get t (x.take m) = none)
  | 0, _ => ⟨fun k h => by (cases h), fun _ m h1 h2 => by omega⟩
  | n + 1, hn => by
    obtain ⟨i1, i2⟩ := longestN_top (t := t) (x := x) (n := n) (by omega)
    unfold longestN
    split
    · rename_i g
      refine ⟨fun k h m hm hm2 => ?_, fun h => by cases h⟩
      cases h
      rw [List.length_take] at hm
      omega
    · rename_i g
      have g' : get t (x.take (n + 1)) = none := by
        cases e : get t (x.take (n + 1)) with
        | none => rfl
        | some v => rw [e] at g; exact absurd rfl g
      refine ⟨fun k h m hm hm2 => ?_, fun h m hm hm2 => ?_⟩
      · by_cases e : m = n + 1
        · rw [e]; exact g'
        · exact i1 k h m hm (by omega)
      · by_cases e : m = n + 1
        · rw [e]; exact g'
        · exact i2 h m hm (by omega)
/-- longest, by what it is -/
theorem longest_eq {t : Tb} {x k : W} (h1 : 1 ≤ k.length) (h3 : k.length ≤ 3) (hp : ∃ r, x = k ++ r) (hk : (get t k).isSome = true) (hmax : ∀ m, k.length < m → m ≤ 3 → m ≤ x.length → get t (x.take m) = none) : longest t x = some k := by
  obtain ⟨r, rfl⟩ := hp
  have hl : k.length ≤ (k ++ r).length := by rw [List.length_append]; omega
  have ht : (k ++ r).take k.length = k := by simp
  cases e : longest t (k ++ r) with
  | none =>
    have := (longestN_top (t := t) (x := k ++ r) (n := min 3 (k ++ r).length) (Nat.min_le_right _ _)).2 e k.length h1 (by omega)
    rw [ht] at this; rw [this] at hk; cases hk
  | some k' =>
    have l := longest_len e
    by_cases q : k'.length = k.length
    · have e1 := l.2.2.2.1
      rw [q, ht] at e1; rw [e1]
    · by_cases q2 : k'.length < k.length
      · have := (longestN_top (t := t) (x := k ++ r) (n := min 3 (k ++ r).length) (Nat.min_le_right _ _)).1 k' e k.length q2 (by omega)
        rw [ht] at this; rw [this] at hk; cases hk
      · have := hmax k'.length (by omega) l.2.2.1 l.2.1
        rw [← l.2.2.2.1] at this
        rw [this] at l; cases l.2.2.2.2
theorem longest_none {t : Tb} {x : W} (h : ∀ m, 1 ≤ m → m ≤ 3 → m ≤ x.length → get t (x.take m) = none) : longest t x = none := by
  cases e : longest t x with
  | none => rfl
  | some k =>
    have l := longest_len e
    have := h k.length l.1 l.2.2.1 l.2.1
    rw [← l.2.2.2.1] at this
    rw [this] at l; cases l.2.2.2.2
theorem get_app (t : Tb) (k v a : W) : get (t ++ [(k, v)]) a = (get t a).or (if k = a then some v else none) := by
  unfold get
  rw [List.find?_append]
  cases t.find? (fun p => decide (p.1 = a)) with
  | none =>
    rw [Option.none_or]
    by_cases h : k = a
    · simp [h]
    · simp [h]
  | some p => rfl
theorem get_setd (t : Tb) (k v a : W) : get (setd t k v) a = (get t a).or (if k = a then some v else none) := by
  unfold setd
  split
  · rename_i h
    by_cases e : k = a
    · subst e
      cases q : get t k with
      | none => rw [q] at h; cases h
      | some v => rfl
    · rw [if_neg e, Option.or_none]
  · exact get_app t k v a
theorem get_readT (s : Sc) (k : W) : get (readT s) k = (s.find? fun p => decide (p.2 = k)).map (·.1) := by
  unfold readT
  have : ∀ (s : Sc) (t : Tb), get (s.foldl (fun t p => setd t p.2 p.1) t) k = (get t k).or ((s.find? fun p => decide (p.2 = k)).map (·.1)) := by
    intro s
    induction s with
    | nil => intro t; simp
    | cons p s ih =>
      intro t
      rw [List.foldl_cons, ih, get_setd, Option.or_assoc, List.find?_cons]
      congr 1
      by_cases h : p.2 = k
      · simp [h]
      · simp [h]
  have h := this s []
  rw [h]
  have : get [] k = none := rfl
  rw [this, Option.none_or]
theorem readT_isSome {s : Sc} {k : W} : (get (readT s) k).isSome = true ↔ ∃ p ∈ s, p.2 = k := by
  rw [get_readT, Option.isSome_map, List.find?_isSome]
  constructor
  · rintro ⟨p, hp, e⟩; exact ⟨p, hp, by simpa using e⟩
  · rintro ⟨p, hp, e⟩; exact ⟨p, hp, by simpa using e⟩
theorem mapped_nil {t : Tb} : mapped t [] = some [] := by unfold mapped; rw [split_nil]; rfl
theorem mapped_none {t : Tb} {x : W} (hx : x ≠ []) (e : longest t x = none) : mapped t x = none := by unfold mapped; rw [split_none hx e]; rfl
theorem mapped_some {t : Tb} {x k : W} (hx : x ≠ []) (e : longest t x = some k) : mapped t x = (mapped t (x.drop k.length)).map (val t k ++ ·) := by
  unfold mapped; rw [split_some hx e, Option.map_map, Option.map_map]
  congr 1
/-- what fits at the head of a text -/
def fit (s : Sc) (x : W) : List (Nat × W) := (s.filter fun p => starts x p.2).map fun p => (p.2.length, p.1)
theorem fit_nil {s : Sc} {x : W} (hs : Scheme s) (h : fit s x = []) : longest (readT s) x = none := by
  refine longest_none fun m h1 h3 hm => ?_
  cases e : get (readT s) (x.take m) with
  | none => rfl
  | some v =>
    obtain ⟨p, hp, e2⟩ := readT_isSome.mp (show (get (readT s) (x.take m)).isSome = true by rw [e]; rfl)
    unfold fit at h
    rw [List.map_eq_nil_iff, List.filter_eq_nil_iff] at h
    exact absurd (starts_iff.mpr ⟨x.drop m, by rw [e2]; exact (List.take_append_drop _ _).symm⟩) (h p hp)
/-- the greatest fit is the longest key; the least of its sources is its value -/
theorem fit_max {s : Sc} {x : W} {q : Nat × W} {r : List (Nat × W)} (hs : Scheme s) (h : fit s x = q :: r) : ∃ k, longest (readT s) x = some k ∧ k.length = (maxL q r).1 ∧ ∃ a b, ((fit s x).filter fun z => decide (z.1 = (maxL q r).1)).map (·.2) = a :: b ∧ minW a b = val (readT s) k := by
  obtain ⟨m1, m2⟩ := maxL_spec q r
  generalize hM : maxL q r = M at m1 m2
  rw [← h] at m1 m2
  obtain ⟨p, hp, e⟩ := List.mem_map.mp (show M ∈ (s.filter fun p => starts x p.2).map fun p => (p.2.length, p.1) from m1)
  rw [List.mem_filter] at hp
  obtain ⟨r', er⟩ := starts_iff.mp hp.2
  have hlen : p.2.length = M.1 := by rw [← e]
  have key : ∀ z ∈ s, (starts x z.2 = true ∧ z.2.length = M.1) ↔ z.2 = p.2 := fun z hz => by
    constructor
    · rintro ⟨h1, h2⟩
      obtain ⟨r2, e2⟩ := starts_iff.mp h1
      have a1 : x.take M.1 = z.2 := by rw [e2, ← h2]; simp
      have a2 : x.take M.1 = p.2 := by rw [er, ← hlen]; simp
      rw [← a1, a2]
    · intro h1; rw [h1]; exact ⟨hp.2, hlen⟩
  have hl : longest (readT s) x = some p.2 := by
    refine longest_eq (hs.tgt1 p hp.1).1 (hs.tgt1 p hp.1).2 ⟨r', er⟩ (readT_isSome.mpr ⟨p, hp.1, rfl⟩) fun m h1 h3 hm => ?_
    cases e3 : get (readT s) (x.take m) with
    | none => rfl
    | some v =>
      obtain ⟨z, hz, e4⟩ := readT_isSome.mp (show (get (readT s) (x.take m)).isSome = true by rw [e3]; rfl)
      have hz1 : starts x z.2 = true := starts_iff.mpr ⟨x.drop m, by rw [e4]; exact (List.take_append_drop _ _).symm⟩
      have := m2 (z.2.length, z.1) (List.mem_map.mpr ⟨z, List.mem_filter.mpr ⟨hz, hz1⟩, rfl⟩)
      have hzl : z.2.length = m := by rw [e4, List.length_take]; omega
      simp only at this
      omega
  refine ⟨p.2, hl, hlen, ?_⟩
  have e5 : ((fit s x).filter fun z => decide (z.1 = M.1)).map (·.2) = (s.filter fun z => decide (z.2 = p.2)).map (·.1) := by
    unfold fit
    rw [List.filter_map, List.map_map, List.filter_filter]
    have : (s.filter fun a => ((fun z : Nat × W => decide (z.1 = M.1)) ∘ fun p : W × W => (p.2.length, p.1)) a && starts x a.2) = s.filter fun z => decide (z.2 = p.2) := by
      apply List.filter_congr
      intro z hz
      rw [Bool.eq_iff_iff]
      simp only [Bool.and_eq_true, Function.comp_def, decide_eq_true_eq]
      rw [← key z hz]
      exact And.comm
    rw [this]; rfl
  rw [e5]
  cases e6 : s.filter fun z => decide (z.2 = p.2) with
  | nil =>
    rw [List.filter_eq_nil_iff] at e6
    exact absurd (by simp) (e6 p hp.1)
  | cons a b =>
    refine ⟨a.1, b.map (·.1), rfl, ?_⟩
    have hpw : (((s.filter fun z => decide (z.2 = p.2)).map (·.1))).Pairwise (· < ·) := by
      have := asc_lt hs.asc
      exact this.sublist (List.filter_sublist.map _)
    rw [e6] at hpw
    rw [minW_asc hpw]
    unfold val
    rw [get_readT]
    have : s.find? (fun z => decide (z.2 = p.2)) = some a := by
      rw [← List.head?_filter, e6]; rfl
    rw [this]; rfl
/-! the law's own cuts -/
def headS (S : List W) (x : W) : Option W := (([3, 2, 1].filter fun n => decide (x.take n ∈ S)).map fun n => x.take n).head?
theorem headS_eq {s : Sc} {x : W} (hx : x ≠ []) : headS (s.map (·.1)) x = longest s x := by
  have g : ∀ k, (get s k).isSome = decide (k ∈ s.map (·.1)) := fun k => by
    rw [Bool.eq_iff_iff, get_isSome, decide_eq_true_iff]
  unfold headS longest
  match x, hx with
  | [a], _ =>
    simp only [List.take, List.length_cons, List.length_nil]
    have : min 3 (0 + 1) = 1 := rfl
    rw [this]
    simp only [longestN, List.take, g]
    by_cases h : [a] ∈ s.map (·.1)
    · simp [h, List.filter]
    · simp [h, List.filter]
  | [a, b], _ =>
    simp only [List.take, List.length_cons, List.length_nil]
    have : min 3 (0 + 1 + 1) = 2 := rfl
    rw [this]
    simp only [longestN, List.take, g]
    by_cases h : [a, b] ∈ s.map (·.1)
    · simp [h, List.filter]
    · by_cases h2 : [a] ∈ s.map (·.1)
      · simp [h, h2, List.filter]
      · simp [h, h2, List.filter]
  | a :: b :: c :: r, _ =>
    simp only [List.take, List.length_cons]
    have : min 3 (r.length + 1 + 1 + 1) = 3 := by omega
    rw [this]
    simp only [longestN, List.take, g]
    by_cases h : [a, b, c] ∈ s.map (·.1)
    · simp [h, List.filter]
    · by_cases h2 : [a, b] ∈ s.map (·.1)
      · simp [h, h2, List.filter]
      · by_cases h3 : [a] ∈ s.map (·.1)
        · simp [h, h2, h3, List.filter]
        · simp [h, h2, h3, List.filter]
end TP
set_option Elab.async false
set_option linter.all false
set_option maxRecDepth 100000
set_option maxHeartbeats 400000
/-! Calls that may raise within a try. -/
namespace TD
open PySem PySem.Spec PyProof.Rows L2 TP
section
variable {X : Cx} {k : Nat} {x : Str} {ps : List Str} {sp : Sp} {W : WX} {p pos : Pos} {e : Expr} {es : List Expr} {t : TA}
theorem pe_callFS (F : FnIs X.prog X.w X.K X.mg X.base (L2N.CX X.prog X.w) k x ps sp) (hr : Room k X.A) (tk : L2N.Takes X W) (ha : PA X (e :: es) t) (hg : Gl X x := by rfl) (hdb : (x == ("__debug__" : Str)) = false := by decide)
    (he : starEach (e :: es) X.env = (false, eval e X.env) :: starEach es X.env := by rfl) (hpl : (backTo pos (starEach es X.env)).any (·.1) = false := by rfl) :
    PE X (.Call (.Name x p) (e :: es) [] pos) (tCallS sp (WE W) t) := by
  obtain ⟨f, fd, G, hm, hk, hb⟩ := F
  exact pe_callS G hr hg hm hk hb (fun σ => L2N.passAt tk σ) ha hdb he hpl
end
section
variable {c : Cz} {ρ : List DV} {ta : TA} {W : WX} {ok : List DV → DV → Prop} {bad : List DV → Value → Prop}
/-- a call in a try that gives -/
theorem ev_callS {xs : List DV} {x : DV} (ha : EvA c ta ρ xs) (h : ok xs x) : EvX c (tCallS (spX c.K ok bad) (WE W) ta) ρ x := fun H1 σ a Q q => ha H1 σ a _ fun vs H2 s2 o2 =>
  ⟨c.M, xs, (a.same s2).lv, o2, .inl ⟨x, h, fun v H3 s3 o3 => q v H3 (s2.trans s3) o3⟩⟩
/-- a call in a try that raises -/
theorem bad_callS {K : PySem.W.Frag} {M : List Addr} {H : Hp} {σ : L2.St} {xs : List DV} {C : Value} {Q : VK} (s : Sta K M H σ ρ) (ha : EvA (cz K M H) ta ρ xs) (h : bad xs C) (q : ∀ H', Same H H' → Sta K M H' σ ρ → W C none σ H') : tCallS (spX K ok bad) (WE W) ta σ H Q :=
  ha H σ s.at _ fun vs H2 s2 o2 => ⟨M, xs, (s.same s2).lv, o2, .inr ⟨C, h, fun H3 s3 => q H3 (s2.trans s3) ((s.same s2).same s3)⟩⟩
/-- the one handler takes it -/
theorem only_yes {K : PySem.W.Frag} {C cls : Value} {ts : Addr → Value → Option Addr → TS} {Wo : WX} {D : Ends} {d : Option Addr} {σ : L2.St} {H : Hp} (e : PySem.W.exmOne K cls C = some true) (h : ∀ a, H a = none → ts a cls d D σ H) : wMany K Wo D [(C, ts)] cls d σ H := ⟨true, e, fun _ => h, fun z => by cases z⟩
theorem only_no {K : PySem.W.Frag} {C cls : Value} {ts : Addr → Value → Option Addr → TS} {Wo : WX} {D : Ends} {d : Option Addr} {σ : L2.St} {H : Hp} (e : PySem.W.exmOne K cls C = some false) (h : Wo cls d σ H) : wMany K Wo D [(C, ts)] cls d σ H := ⟨false, e, fun z => by (cases z), fun _ => h⟩
/-- the named handler takes it -/
theorem as_yes {K : PySem.W.Frag} {C cls : Value} {i : Nat} {ts : Addr → Value → Option Addr → TS} {Wo : WX} {D : Ends} {d : Option Addr} {σ : L2.St} {H : Hp} (e : PySem.W.exmOne K cls C = some true)
    (h : ∀ a, H a = none → ts a cls d { nx := fun σ' H' => D.nx (σ'.set i none) H', rt := D.rt, bk := fun σ' H' => D.bk (σ'.set i none) H', ct := fun σ' H' => D.ct (σ'.set i none) H' } (σ.set i (some (.ref a))) H) : wAs K C i ts Wo D cls d σ H := ⟨true, e, fun _ => h, fun z => by cases z⟩
end
section
variable {K : PySem.W.Frag} {M : List Addr} {H : Hp} {σ : L2.St} {ρ : List DV} {D : Ends} {te : TE} {tz : TS} {i j : Nat} {x : DV}
/-- a, b = e, [] : b is a new list, hidden -/
theorem q_parL (s : Sta K M H σ ρ) (h : EvX (cz K M H) te ρ x) (k : ∀ p σ' H', H p = none → p ∉ M → Same (hid M H) (hid (p :: M) H') → Same H H' → Sta K (p :: M) H' σ' ((ρ.set i x).set j (.v (.ref p))) → ML (p :: M) H' p [] → tz D σ' H') : tSeq (tPar i j (tCons te (tCons (tLst tNil) tNil))) tz D σ H :=
  h H σ s.at _ fun v H2 s2 o2 => by
    refine ⟨Nat.zero_le _, fun p hp => ⟨_, _, rfl, ?_⟩⟩
    have st := s.same s2
    have nm : p ∉ M := st.lv.new hp
    have sn := same_new hp (HO.lst [])
    have st3 := st.push (o := .lst []) hp
    exact k p _ _ (by cases e : H p with | none => rfl | some o => rw [s2 _ _ e] at hp; cases hp) nm ((Same.hid s2).trans (hid_new hp sn)) (s2.trans sn) ((st3.set (o2.mono (hid_new hp sn))).set (x := .v (.ref p)) rfl) ⟨List.mem_cons_self, [], upd_same, .nil⟩
/-- a, b = e, [] by way of a tuple: b is a new list, hidden -/
theorem q_tupL (s : Sta K M H σ ρ) (h : EvX (cz K M H) te ρ x) (k : ∀ p σ' H', H p = none → p ∉ M → Same (hid M H) (hid (p :: M) H') → Same H H' → Sta K (p :: M) H' σ' ((ρ.set i x).set j (.v (.ref p))) → ML (p :: M) H' p [] → tz D σ' H') :
    tSeq (tAsg (tTupF (tCons te (tCons (tLst tNil) tNil))) (gTup K 2 (gCons (gName i) (gCons (gName j) gNil)))) tz D σ H :=
  h H σ s.at _ fun v H2 s2 o2 => by
    refine ⟨Nat.zero_le _, fun p hp => ⟨by show 2 ≤ _; decide, fun q o hq ho => ?_⟩⟩
    have st := s.same s2
    have nm : p ∉ M := st.lv.new hp
    have sn := same_new hp (HO.lst [])
    have st3 := st.push (o := .lst []) hp
    have sq := same_new hq (.frz o (.tup [v, .ref p]))
    have st4 := st3.same sq
    have hqp : q ≠ p := fun z => by rw [z, upd_same] at hq; cases hq
    refine ⟨q, [v, .ref p], rfl, .inl (.inr ⟨o, upd_same⟩), rfl, v, [.ref p], rfl, .ref p, [], rfl, rfl, ?_⟩
    exact k p _ _ (by cases e : H p with | none => rfl | some o => rw [s2 _ _ e] at hp; cases hp) nm ((Same.hid s2).trans ((hid_new hp sn).trans (Same.hid sq))) (s2.trans (sn.trans sq)) ((st4.set ((o2.mono (hid_new hp sn)).mono (Same.hid sq))).set (x := .v (.ref p)) rfl) ⟨List.mem_cons_self, [], by rw [upd_ne hqp.symm]; exact upd_same, .nil⟩
theorem atI_zero {α : Type} (l : List α) : atI l 0 = l.head? := by
  cases l with
  | nil => rfl
  | cons a l => exact atI_nat (j := 0) rfl
end
end TD
namespace TP
open PySem TD L2
def lettersW (s : Sc) : W := (letters s).flatten
theorem letters_one {s : Sc} {w : W} (h : w ∈ letters s) : ∃ c, w = [c] := by
  have := (letters_mem.mp h).2
  exact List.length_eq_one_iff.mp this
theorem lettersW_map (s : Sc) : (lettersW s).map (fun c => [c]) = letters s := by
  unfold lettersW
  have : ∀ l : List W, (∀ w ∈ l, ∃ c, w = [c]) → l.flatten.map (fun c => [c]) = l := by
    intro l
    induction l with
    | nil => intro _; rfl
    | cons a l ih =>
      intro h
      obtain ⟨c, rfl⟩ := h a List.mem_cons_self
      rw [List.flatten_cons, List.map_append, ih fun w hw => h w (List.mem_cons_of_mem _ hw)]; rfl
  exact this _ fun w hw => letters_one hw
theorem lettersW_mem {s : Sc} {c : Nat} : c ∈ lettersW s ↔ [c] ∈ s.map (·.1) := by
  have e := lettersW_map s
  constructor
  · intro h
    have : [c] ∈ letters s := by rw [← e]; exact List.mem_map_of_mem h
    exact (letters_mem.mp this).1
  · intro h
    have : [c] ∈ letters s := letters_mem.mpr ⟨h, rfl⟩
    rw [← e] at this
    obtain ⟨d, hd, ed⟩ := List.mem_map.mp this
    cases ed; exact hd
theorem lettersW_len {s : Sc} : (lettersW s).length ≤ s.length := by
  have := congrArg List.length (lettersW_map s)
  rw [List.length_map] at this
  rw [this]
  unfold letters
  rw [List.length_map]
  exact List.length_filter_le _ _
/-- the segments -/
def segs (s : Sc) (x : W) : List W := (split (writeT s) x).getD []
theorem Made.letters {l g : W} {s : Sc} (h : Made l g s) (c : Nat) : c ∈ lettersW s ↔ c ∈ l := by rw [lettersW_mem]; exact h.lets c
end TP
namespace TP
open PySem TD L2
def anyL : List W := [[97], [97, 98], [97, 98, 99]]
def anyG : List W := [[112], [112, 113], [112, 113, 114], [97, 98, 99]]
/-- a scheme as _law_any gives -/
def Any (s : Sc) : Prop := ∃ l g, Made l g s ∧ l ∈ anyL ∧ g ∈ anyG
theorem anyL_ok : ∀ l ∈ anyL, l ≠ [] ∧ (∀ c ∈ l, c ∈ lowers) ∧ l.length ≤ 3 := by decide
theorem anyG_ok : ∀ l ∈ anyG, l ≠ [] ∧ (∀ c ∈ l, c ∈ lowers) ∧ l.length ≤ 3 := by decide
end TP
set_option Elab.async false
set_option linter.all false
set_option maxRecDepth 100000
set_option maxHeartbeats 400000
/-! The law itself. -/
namespace TD
open PySem PySem.Spec PyProof.Rows L2 TP
theorem ML.town {M : List Addr} {H : Hp} {p : Addr} (h : ML M H p [.int 0, .int 0]) : TownAt p H := by
  obtain ⟨_, vs, e, d⟩ := h
  cases d with
  | cons d1 d2 =>
    cases d2 with
    | cons d2 d3 =>
      cases d3
      rw [dq_int d1, dq_int d2] at e
      exact ⟨0, 0, by decide, by decide, e⟩
/-- where the law stands: since Hb nothing visible has changed -/
structure StaL (K : PySem.W.Frag) (M : List Addr) (t : Addr) (Hb H : Hp) (σ : L2.St) (ρ : List DV) : Prop extends StaT K M t H σ ρ where
  sb : Same (hid M Hb) (hid M H)
section
variable {K : PySem.W.Frag} {M : List Addr} {t : Addr} {Hb H : Hp} {σ : L2.St} {ρ : List DV} {D : Ends} {te : TE} {tt : TT} {tu tw tz : TS} {i : Nat} {P : DV → Prop} {x : DV}
theorem StaL.ofS {H' : Hp} {σ' : L2.St} {ρ' : List DV} (s : StaL K M t Hb H σ ρ) (h : Same H H') (a : Sta K M H' σ' ρ') : StaL K M t Hb H' σ' ρ' := ⟨s.toStaT.of h a, s.sb.trans (Same.hid h)⟩
theorem StaL.ofG {H' : Hp} {σ' : L2.St} {ρ' : List DV} (s : StaL K M t Hb H σ ρ) (g : Gr [t] H H') (a : StaT K M t H' σ' ρ') : StaL K M t Hb H' σ' ρ' := ⟨a, s.sb.trans (Gr.hidT s.n g)⟩
theorem l_asg (s : StaL K M t Hb H σ ρ) (h : EvX (cz K M H) te ρ x) (k : ∀ σ' H', StaL K M t Hb H' σ' (ρ.set i x) → tz D σ' H') : tSeq (tAsg te (gName i)) tz D σ H :=
  q_asg s.sta h fun σ' H' e a => k σ' H' (s.ofS e a)
theorem l_draw (s : StaL K M t Hb H σ ρ) (h : EvT (czT K M t H) t te ρ P) (k : ∀ x σ' H', P x → StaL K M t Hb H' σ' (ρ.set i x) → tz D σ' H') : tSeq (tAsg te (gName i)) tz D σ H :=
  qt_asg s.toStaT h fun x σ' H' p g a => k x σ' H' p (s.ofG g a)
theorem l_skip (s : StaL K M t Hb H σ ρ) (h : EvB (cz K M H) tt ρ false) (k : ∀ H', StaL K M t Hb H' σ ρ → tz D σ H') : tSeq (tIfS tt tu tNext) tz D σ H :=
  q_when s.sta h (fun z => by cases z) fun _ H' e a => k H' (s.ofS e a)
theorem l_skipS (s : StaL K M t Hb H σ ρ) (h : EvB (cz K M H) tt ρ false) (k : ∀ H', StaL K M t Hb H' σ ρ → D.nx σ H') : tIfS tt tu tNext D σ H :=
  s_if s.sta h (fun z => by cases z) fun _ H' e a => k H' (s.ofS e a)
theorem l_drop (s : StaL K M t Hb H σ ρ) (h : EvX (cz K M H) te ρ x) (k : ∀ H', StaL K M t Hb H' σ ρ → tz D σ H') : tSeq (tDrop te) tz D σ H :=
  q_drop s.sta h fun H' e a => k H' (s.ofS e a)
theorem l_when {b : Bool} (s : StaL K M t Hb H σ ρ) (h : EvB (cz K M H) tt ρ b) (h1 : b = true → ∀ H', StaL K M t Hb H' σ ρ → tu { D with nx := tz D } σ H') (h2 : b = false → ∀ H', StaL K M t Hb H' σ ρ → tw { D with nx := tz D } σ H') : tSeq (tIfS tt tu tw) tz D σ H :=
  q_if s.sta h (fun e H' e' a => h1 e H' (s.ofS e' a)) fun e H' e' a => h2 e H' (s.ofS e' a)
theorem LS.mk {R : List DV → Prop} {ρ' : List DV} (s : StaL K M t Hb H σ ρ') (r : R ρ') : LS K M (fun ρ' H' => R ρ' ∧ TownAt t H') Hb σ H := ⟨ρ', s.sb, s.sta, r, s.tw⟩
theorem l_for {wi : TI} {g : TG} {α : Type} {ys : List α} {it : α → IV} {js : List Nat} {up : α → List DV → List DV} (s : StaL K M t Hb H σ ρ) (hi : EvI (cz K M H) wi ρ (ys.map it)) (hg : ∀ y ∈ ys, ∀ ρ', GOk K js g (it y) ρ' (up y ρ'))
    (R : List DV → Prop) (h0 : R ρ)
    (hs : ∀ y σ' ρ' H' Hc, y ∈ ys → R ρ' → StaL K M t Hc H' σ' (up y ρ') → tu { D with nx := LS K M (fun ρ' H' => R ρ' ∧ TownAt t H') Hc, ct := LS K M (fun ρ' H' => R ρ' ∧ TownAt t H') Hc, bk := tz D } σ' H')
    (hd : ∀ σ' ρ' H', R ρ' → StaL K M t Hb H' σ' ρ' → tz D σ' H') : tSeq (tFor wi g tu) tz D σ H := by
  refine q_for s.sta hi hg (fun _ ρ' H' => R ρ' ∧ TownAt t H') (fun H1 s1 => ⟨h0, s.tw.same s1⟩) ?_ ?_
  · rintro i y σ' ρ' H' H3 Hc hy sb sm ⟨r, w⟩ s3 S3
    exact hs y σ' ρ' H3 Hc (List.mem_of_getElem? hy) r ⟨⟨S3, s.tm, w.same s3⟩, sm.trans (Same.hid s3)⟩
  · rintro σ' ρ' H' sm S3 ⟨r, w⟩
    exact hd σ' ρ' H' r ⟨⟨S3, s.tm, w⟩, s.sb.trans sm⟩
end
section
variable {c : Cz} {d : D}
theorem rx_neS (hp : d.plain = true) (hz : d.depth ≤ 60) : RX c rNeQ (.d d) (.d d) (.d (.bool false)) := by
  have := rx_ne (c := c) (d := d) (e := d) (by omega)
  rw [PySem.SeqAt.eqv_refl_plain d hp] at this
  exact this
theorem rx_eqS (hp : d.plain = true) (hz : d.depth ≤ 60) : RX c rEqQ (.d d) (.d d) (.d (.bool true)) := by
  have := rx_eq (c := c) (d := d) (e := d) (by omega)
  rw [PySem.SeqAt.eqv_refl_plain d hp] at this
  exact this
theorem plain_ws (l : List W) : (encW l).plain = true := by
  show PyData.plainAll (l.map ds) = true
  induction l with
  | nil => rfl
  | cons a l ih => show (PyData.plain (ds a) && PyData.plainAll (l.map ds)) = true; rw [ih]; rfl
theorem depth_w (l : List W) : (encW l).depth ≤ 60 := by
  simp only [encW, PyData.depth]
  rw [depth_ws]; decide
theorem plain_O (o : Option W) : (encO o).plain = true := by cases o <;> rfl
theorem depth_O (o : Option W) : (encO o).depth ≤ 60 := by cases o <;> exact Nat.zero_le _
theorem rx_neB {a b : Bool} : RX c rNeQ (.d (.bool a)) (.d (.bool b)) (.d (.bool (!decide (a = b)))) := by
  have := rx_ne (c := c) (d := .bool a) (e := .bool b) (Nat.le_trans (Nat.min_le_right _ _) (Nat.zero_le _))
  have e : PyData.eqv (.bool a) (.bool b) = decide (a = b) := by cases a <;> cases b <;> rfl
  rw [e] at this; exact this
/-- a test that two are alike is false -/
theorem eb_same {ta tb : TE} {ρ : List DV} {x y : D} (ha : EvX c ta ρ (.d x)) (hb : EvX c tb ρ (.d y)) (e : x = y) (hp : x.plain = true) (hz : x.depth ≤ 60) : EvB c (tTest (tOp rNeQ ta tb)) ρ false := by
  subst e
  exact eb_test (ev_op ha hb (rx_neS hp hz))
theorem eb_or2 {tt tu : TT} {ρ : List DV} (h1 : EvB c tt ρ false) (h2 : EvB c tu ρ false) : EvB c (tOr tt tu) ρ false := eb_or h1 fun _ => h2
end
/-! the rule for the law -/
def spLaw (K : PySem.W.Frag) : Sp := fun vs H Q _ => ∃ (a : Addr) (ns : List Int), vs = [.ref a] ∧ SqL K H a (ns.map V.int) ∧ ns.length ≤ 63 ∧ ∀ H', Q (.bl true) H'
theorem law_ok {P : Program} {w : World} {K : PySem.W.Frag} {mg : Str → Option Value} {st : Stmt} {N : List Str} {fa : Addr} (d : ∃ f, DefAt K "law" st f) (hm : Left K mg) (hfa : mg "law" = some (.ref fa)) (S : FnScope N ["_law_script"] (defScope st))
    (hbind : ∀ (kV doc pm : Value) (an : Option Addr) (cdv ct : Value) (s : Shared) (u : Value), BindsTo s (PySem.W.fnOf "law" "law" (defArgs st) (defBody st) (defScope st) .none kV doc pm an cdv ct) ⟨[u], []⟩ [("_law_script", u)])
    (body : ∀ (base : Heap), K.In base → base.Ns mainGlobals mg → ∀ (f : Addr) (cdv : Value) (A : Around) (outer : List PySem.Env) (s : Shared) (H : Hp) (vs : List V) (E : XK), Room 99 (A.deeper (envOfC "law" (defScope st) s.heap.objs.size f cdv)) →
      ∃ t, PSs (cxOf (L2N.CX P w) P w K mg base N "law" (defScope st) f cdv A outer s H E) (defBody st) t ∧ ∀ (ns : List Int) (Q : VK), ns.length ≤ 63 → Sta K [] H (L2.start N vs) (.s ns :: List.replicate (N.length - 1) .z) →
        (∀ H', Q (.bl true) H') → t { nx := fun _ H' => Q .non H', rt := Q } (L2.start N vs) H) :
    ∃ fd : FuncData, (∀ (s : Shared) (u : Value), BindsTo s fd ⟨[u], []⟩ [("_law_script", u)]) ∧ ∀ base : Heap, K.In base → base.Ns mainGlobals mg → FnOk P w K mg base (L2N.CX P w) 100 fa fd ["_law_script"] (spLaw K) := by
  obtain ⟨f, at_, ⟨oc, od, kV, doc, pm, an, cdv, ct, osl, lk, cd⟩, kp⟩ := d
  have F := fun_mk (st := st) lk cd kp
  have e := hfa.symm.trans (hm _ _ at_)
  cases e
  refine ⟨_, fun s u => hbind kV doc pm an cdv ct s u, fun base hK hN => okXN F S (fun vs H Q E h => ?_) (fun cdv A outer s H vs Q E hr h => ?_)⟩
  · obtain ⟨a, ns, rfl, _⟩ := h; rfl
  · obtain ⟨a, ns, rfl, hS, hl, q⟩ := h
    obtain ⟨t, h1, h2⟩ := body base hK hN fa cdv A outer s H [.ref a] E hr
    refine ⟨t, h1, h2 ns Q hl ⟨fun m hm => by simp at hm, ?_⟩ q⟩
    have ha : Args K (hid [] H) [V.ref a] [.s ns] := .cons ⟨a, rfl, by
      have e : hid [] H = H := by funext b; exact hid_out (by simp)
      rw [e]; exact hS⟩ .nil
    exact env_start ha
end TD
namespace TP
open PySem TD L2
theorem text_of {x : W} (h : x.length ≤ 40) (h2 : ∀ c ∈ x, c ∈ lowers) : isText (ds x) = true := by
  unfold isText isStr
  simp only [tl_sw, Bool.and_eq_true, decide_eq_true_eq, List.all_eq_true]
  exact ⟨⟨by omega, by omega⟩, fun c hc => decide_eq_true (h2 c hc)⟩
theorem mapped_chars {t : Tb} {x y : W} {p : Nat → Prop} (h : ∀ q ∈ t, ∀ c ∈ q.2, p c) (e : mapped t x = some y) : ∀ c ∈ y, p c := by
  unfold mapped at e
  obtain ⟨ps, h1, rfl⟩ := Option.map_eq_some_iff.mp e
  intro c hc
  obtain ⟨v, hv, hc'⟩ := List.mem_flatten.mp hc
  obtain ⟨k, hk, rfl⟩ := List.mem_map.mp hv
  have gv := get_val (split_mem _ (Nat.le_refl _) h1 k hk).1
  exact h _ (get_mem gv) c hc'
theorem trans_text {s : Sc} {w : W} (h : Scheme s) (hw : isWord s (ds w) = true) (hl : (TP.trans s w).length ≤ 40) : isText (ds (TP.trans s w)) = true := by
  obtain ⟨y, e, _⟩ := h.mapped hw
  have e2 : TP.trans s w = y := by unfold TP.trans; rw [e]; rfl
  rw [e2] at hl ⊢
  refine text_of hl (mapped_chars (fun q hq c hc => ?_) e)
  rw [h.writeT] at hq
  have := List.all_eq_true.mp (h.tgt2 q hq) c hc
  exact of_decide_eq_true this
end TP
theorem TD.left_of {K : PySem.W.Frag} {h : PySem.Heap} {mg : PySem.Str → Option PySem.Value} (X : K.In h) (G : h.Ns PySem.mainGlobals mg) : TD.Left K mg := fun x v e => by
  cases v with
  | none => exact PySem.W.mg_none_of X G e
  | some v => exact PySem.W.mg_of X G e
namespace TD
open PySem
theorem exc_mk {K : PySem.W.Frag} {x : Str} {C : Addr} (a : PySem.W.nsIn K mainGlobals x = some (some (.ref C))) (q : PySem.W.excIn K C [.type "ValueError", .type "Exception", .type "BaseException", .type "object"] "ValueError.__new__" = true) (k : PySem.W.keepIn K (.ref C) = true) (b : PySem.W.subIn K (.ref C) (.type "BaseException") = some true) (t : PySem.W.typeIn K (.ref C) = some (.type "type")) (i : PySem.W.isClsIn K C = true) :
    ∃ C : Addr, PySem.W.nsIn K mainGlobals x = some (some (.ref C)) ∧ PySem.W.excIn K C [.type "ValueError", .type "Exception", .type "BaseException", .type "object"] "ValueError.__new__" = true ∧ PySem.W.keepIn K (.ref C) = true ∧ PySem.W.subIn K (.ref C) (.type "BaseException") = some true ∧ PySem.W.typeIn K (.ref C) = some (.type "type") ∧ PySem.W.isClsIn K C = true := ⟨C, a, q, k, b, t, i⟩
theorem int_mk {K : PySem.W.Frag} {x : Str} {i : Int} {t : Tok} (a : PySem.W.nsIn K mainGlobals x = some (some (.int i t))) : ∃ t, PySem.W.nsIn K mainGlobals x = some (some (.int i t)) := ⟨t, a⟩
theorem str_mk {K : PySem.W.Frag} {x z z' : Str} {t : Tok} (a : PySem.W.nsIn K mainGlobals x = some (some (.str z t))) (e : z = z') : ∃ t, PySem.W.nsIn K mainGlobals x = some (some (.str z' t)) := ⟨t, e ▸ a⟩
theorem sub_mk {K : PySem.W.Frag} {x y : Str} {b : Bool} {C D : Addr} (a : PySem.W.nsIn K mainGlobals x = some (some (.ref C))) (a2 : PySem.W.nsIn K mainGlobals y = some (some (.ref D))) (e : PySem.W.subIn K (.ref C) (.ref D) = some b) :
    ∃ C D : Addr, PySem.W.nsIn K mainGlobals x = some (some (.ref C)) ∧ PySem.W.nsIn K mainGlobals y = some (some (.ref D)) ∧ PySem.W.subIn K (.ref C) (.ref D) = some b := ⟨C, D, a, a2, e⟩
end TD
namespace TD
open PySem
theorem sub_of {K : PySem.W.Frag} {mg : Str → Option Value} {x y : Str} {b : Bool} {C D : Addr} (hm : Left K mg) (a : PySem.W.nsIn K mainGlobals x = some (some (.ref C))) (a2 : PySem.W.nsIn K mainGlobals y = some (some (.ref D))) (e : PySem.W.subIn K (.ref C) (.ref D) = some b) :
    PySem.W.subIn K (.ref (xa mg x)) (.ref (xa mg y)) = some b := by rw [xa_of hm a, xa_of hm a2]; exact e
end TD
set_option Elab.async false
set_option linter.all false
set_option maxRecDepth 100000
set_option maxHeartbeats 400000
/-! Defs called with the exception that a suite holds. -/
namespace TD
open PySem PySem.Spec PyProof.Rows L2 TP
/-- a def called within a suite: its promise knows the handled exception (its place, class, dict) -/
structure FnE (P : Program) (w : World) (K : PySem.W.Frag) (mg : Str → Option Value) (base : Heap) (k : Nat) (f : Addr) (fd : FuncData) (ps : List Str) (sp : Addr → Value → Option Addr → Sp) : Prop where
  len : ∀ a cls d vs H Q E, sp a cls d vs H Q E → vs.length = ps.length
  run : ∀ (A : Around) (outer : List PySem.Env) (s : Shared) (H : Hp) (args : PySem.Args) (us : List Value) (vs : List V) (Q : VK) (E : XK) (p : Addr × Obj) (cls : Value) (d : Option Addr), L2H.RoomH k A → L2H.Hot1 A p → L2H.PinOk outer H s p → L2N.Zn cls d p.2 → Env0 P w K mg base A outer s H → BindsTo s fd args (ps.zip us) → Vals vs us → sp p.1 cls d vs H Q E →
    codeAny (model P w) A (.call (.ref f) args) (CR (L2N.CX P w) outer P w H s Q E) s
theorem fnE_of {P : Program} {w : World} {K : PySem.W.Frag} {mg : Str → Option Value} {base : Heap} {k : Nat} {f : Addr} {name qual : Str} {params : Arguments} {body : List Stmt} {scope : Scope} {dV kV doc pm cdv ct oc : Value} {an od : Option Addr}
    {osl : Array (Option Value)} {N ps : List Str} {sp : Addr → Value → Option Addr → Sp} (lk : K.lookup f = some ⟨oc, od, .func (PySem.W.fnOf name qual params body scope dV kV doc pm an cdv ct), osl⟩) (hcd : PySem.W.codeIn K cdv qual = true) (S : FnScope N ps scope)
    (len : ∀ a cls d vs H Q E, sp a cls d vs H Q E → vs.length = ps.length)
    (hbody : ∀ (A : Around) (outer : List PySem.Env) (s : Shared) (H : Hp) (vs : List V) (Q : VK) (E : XK) (p : Addr × Obj) (cls : Value) (d : Option Addr), L2H.Hot1 A p → L2N.Zn cls d p.2 → L2H.RoomH k (A.deeper (envOfC qual scope s.heap.objs.size f cdv)) → sp p.1 cls d vs H Q E →
      ∃ t, PSs (L2H.cxH (L2N.CX P w) P w K mg base N qual scope f cdv A outer s H E p) body t ∧ t { nx := fun _ H' => Q .non H', rt := Q } (L2.start N vs) H) :
    FnE P w K mg base (k + 1) f (PySem.W.fnOf name qual params body scope dV kV doc pm an cdv ct) ps sp := by
  constructor
  · exact len
  intro A out st H ar us vs Q E p cls d room hot pin zn e0 bt rel want
  have sz := len _ _ _ _ _ _ _ want
  have kin : K.In st.heap := e0.mod.kin.keeps fun b o e => (e0.bs b o e).1
  have nl : st.heap.NoLimit := e0.mod.nolimit.keeps fun b o e => (e0.bs b o e).1
  have kinds : ∀ y ∈ ps.zip us, scope.names.lookup y.1 = some .local ∨
      (scope.names.lookup y.1 = some .cell ∧ ((cellsFrom (st.heap.objs.size + 1) scope.names []).lookup y.1).isSome = true) := by
    rintro ⟨n, v⟩ hy
    refine (S.par n (List.of_mem_zip hy).1).imp id fun q => ?_
    exact ⟨q, PySem.W.cellsFrom_some _ _ _ (.inl q)⟩
  have bd := bt
  refine codeAny_call_function room.depth (kin _ _ lk) rfl S.co S.gen
    rfl (PySem.W.codeRec_of kin hcd) (bd _ _ _ _ ?_)
  refine wpAny_newFunctionEnv_cells S.kind kinds
    fun en hen s1 fr => ?_
  subst hen
  refine ⟨nl.keeps fr.toInCall.keep,
    codeAny_func ?_⟩
  obtain ⟨t, ht, rd⟩ := hbody A out st H vs Q E p cls d hot zn (room.deeper _) want
  have J := L2H.inv_startH (CX := L2N.CX P w) (mg := mg) (base := base) (E := E) (qual := qual) (f := f) (cd := cdv) S pin e0 sz rel fr
  refine wpAny_mono (ht.run [] s1 _ H _ J rd) ?_ fun _ _ h => h
  intro fl s2 hs
  match fl, hs with
  | .ret u, ⟨v, σ', H', J2, rv, q⟩ => exact ⟨v, H', J2.os, J2.bare, J2.base, J2.hok, rv, q⟩
  | .next, ⟨σ', H', J2, q⟩ => exact ⟨V.non, H', J2.os, J2.bare, J2.base, J2.hok, rfl, q⟩
  | .brk, ⟨_, _, _, q⟩ => exact q.elim
  | .cont, ⟨_, _, _, q⟩ => exact q.elim
section
variable {Y : Cx} {k : Nat} {x : Str} {f : Addr} {fd : FuncData} {ps : List Str} {sp : Addr → Value → Option Addr → Sp} {a : Addr} {oe : Obj} {pn : List (Addr × Obj)} {cls : Value} {d : Option Addr} {q pos : Pos} {e : Expr} {es : List Expr} {t : TA}
/-- a call of such a def in a suite -/
theorem pe_callE (F : FnE Y.prog Y.w Y.K Y.mg Y.base k f fd ps sp) (hr : Room k Y.A) (hz : L2N.Zn cls d oe) (hf : ∃ vs, oe.data = .fields vs) (hg : Gl Y x) (hm : Y.mg x = some (.ref f)) (hk : PySem.W.keepIn Y.K (.ref f) = true) (hb : Binds Y.K fd ps [])
    (ha : PA (Y.suite a ((a, oe) :: pn)) (e :: es) t) (hdb : (x == ("__debug__" : Str)) = false := by decide) (he : starEach (e :: es) Y.env = (false, eval e Y.env) :: starEach es Y.env := by rfl) (hpl : (backTo pos (starEach es Y.env)).any (·.1) = false := by rfl) :
    PE (Y.suite a ((a, oe) :: pn)) (.Call (.Name x q) (e :: es) [] pos) (tCallS (sp a cls d) (fun _ => E0) t) := by
  constructor
  intro pins s σ H Q I h
  refine wpAny_Call_Name_kw (ld_glob I hg hm ?_ hdb)
  refine PySem.W.callWith_K (h₀ := Y.base) I.ok.mod.kin hk (thn (ha.run pos pins s σ H _ I h)
    fun us s1 ⟨vs, H1, I1, r, w⟩ => ⟨I1.kIn, ?_⟩) he hpl
  have hl : us.length = ps.length := by rw [← r.length]; exact F.len _ _ _ _ _ _ _ w
  have b := hb s1 us I1.kIn (by rw [List.append_nil]; exact hl)
  rw [List.append_nil] at b
  have P1 := I1.pin (a, oe) (List.mem_append_left _ List.mem_cons_self)
  have hpin : L2H.PinOk Y.stack H1 s1 (a, oe) := ⟨P1.1, P1.2.1, fun hm => (List.mem_cons.mp (I1.stkSub a hm)).elim P1.2.2.1 P1.2.2.2.1, P1.2.2.2.2⟩
  obtain ⟨fs, hfs⟩ := hf
  have hot : L2H.Hot1 (Y.A.mark (some (.ref a))) (a, oe) := ⟨rfl, fs, hfs, hz.2.2 fs hfs⟩
  refine wpAny_call (codeAny_mono (F.run (Y.A.mark (some (.ref a))) Y.stack s1 H1 ⟨us, []⟩ us vs Q E0 (a, oe) cls d ⟨hr.dp, hr.un⟩ hot hpin hz I1.env0 b r w) ?_)
  intro r s' hq
  match r, hq with
  | .error e', ⟨_, _, _, _, _, _, _, _, _, _, _, _, z⟩ => exact z.elim
  | .ok (.ret u), hq => exact I1.after hq
end
section
variable {X : Cx}
/-- isinstance(e, c), e the pinned exception at a -/
theorem call_isP {a D : Addr} {oe : Obj} (C : ExcC X.K D) (hp : (a, oe) ∈ X.pn) (hz : Zc (.ref D) none oe) (hf : ∃ vs, oe.data = .fields vs) : CallR X (.builtin "isinstance") (rIsE X.K D a) := by
  rintro pins s σ H xs us Q I r ⟨c, cv, b, rfl, hcv, e, q⟩
  obtain ⟨u, v, rfl, rx, rt⟩ := vals2 r
  cases rx
  obtain rfl := hcv _ rt
  have hget := (I.pin (a, oe) (List.mem_append_left _ hp)).1
  obtain ⟨vs, hv⟩ := hf
  have J : PySem.W.InstAt s.heap a oe D none := by
    cases oe with
    | mk oc od oda osl =>
      obtain ⟨h1, h2⟩ := hz
      simp only at h1 h2 hv
      subst h1 h2 hv
      exact ⟨hget, rfl, rfl, trivial⟩
  have fin : ∀ tk, EP X pins σ Q (.bool b) { s with toks := tk } := fun tk => ⟨.bl b, H, I.tok tk, rfl, q⟩
  exact PySem.W.kia_one (PySem.W.handS_kitx_exc C.hg C.hk C.hs C.hd C.ha C.hn C.ht C.hm) I.kIn J e (fun z => nomatch z) fin
end
end TD
set_option Elab.async false
set_option linter.all false
set_option maxRecDepth 100000
set_option maxHeartbeats 400000
/-! Lists shown again, counted; defs as values. -/
namespace TD
open PySem PySem.Spec PyProof.Rows L2 TP
section
variable {K : PySem.W.Frag} {M : List Addr} {H : Hp} {σ : L2.St} {ρ : List DV} {i : Nat}
/-- a hidden list shown again -/
theorem unhideL {p : Addr} {xs : List PyData} (s : Sta K (p :: M) H σ ρ) (np : p ∉ M) (m : ML (p :: M) H p xs) (h : ρ[i]? = some (.v (.ref p))) : Sta K M H σ (ρ.set i (.d (.list xs))) := by
  have d := m.data (M' := M) (fun b hb => List.mem_cons_of_mem _ hb) np
  refine ⟨fun b hb => s.lv b (List.mem_cons_of_mem _ hb), ?_⟩
  obtain ⟨v, e1, e2⟩ := s.env.get h (by intro z; cases z)
  obtain rfl : v = V.ref p := e2
  have := (s.env.mono (hid_cons (M := M))).set i (SOk.of (x := .d (.list xs)) d)
  have e3 : σ.set i (some (.ref p)) = σ := by
    apply List.ext_getElem?
    intro j
    rw [List.getElem?_set]
    split
    · rename_i q; subst q; rw [e1]; split
      · rfl
      · rename_i q2; rw [List.getElem?_eq_none (by omega)] at e1; cases e1
    · rfl
  rw [e3] at this; exact this
end
section
variable {X : Cx}
/-- xs.count(y), by data -/
def rCntD : V → List V → Hp → VK → Prop := fun x xs H Q => ∃ (a : Addr) (y : V) (d : D) (ds : List D), x = .ref a ∧ xs = [y] ∧ Dq H (.ref a) (.list ds) ∧ Dq H y d ∧ PyData.canLayAll0 ds = true ∧ d.canLay0 = true ∧ min (PyData.depthAll ds) d.depth ≤ 60 ∧ Q (.int (ds.countP fun z => PyData.eqv z d : Nat)) H
theorem mt_countD (hu : X.A.units + 65 < cLine) : MtR X "list.count" rCntD := by
  rintro pins s σ H x xs v us Q I rx rxs ⟨a, y, d, ds, rfl, rfl, hl, hy, c1, c2, hz, q⟩
  cases rx
  obtain ⟨uy, rfl, ry⟩ := vals1 rxs
  obtain ⟨bs, r1⟩ := rd_q I hy ry
  obtain ⟨a', vs, ea, ha, hv⟩ := dq_list hl
  cases ea
  obtain ⟨its, rv, pl, hlen⟩ := I.list (.inl (.inl ha))
  obtain ⟨ob, n, ho, hcls, hnn, hdat⟩ := pl
  obtain ⟨oc, od, oda, osl⟩ := ob
  simp only at hcls hdat
  subst hcls hdat
  obtain ⟨as, h4⟩ := rdAll_q I hv rv
  have hmap : its.map (SeqAt.readOf s.heap) = ds := SeqAt.readsAll_map ds its as c1 h4
  have room : X.A.units + 1 + min (PyData.depthAll ds) d.depth < cLine := by omega
  have eqs := SeqAt.items_eqAt (vs := its.toArray) (show ReadsAll s.heap its.toArray.toList ds as from h4) r1 c1 c2 room
  refine call_meets PySem.F.slot_list_count ⟨_, ho, rfl⟩ PySem.F.entry_list_count
    (PySem.F.args_list_count_2 _ _) (SeqAt.list_countAt a its.toArray n od osl uy
      (fun u => PyData.eqv (SeqAt.readOf s.heap u) d)) ⟨ho, eqs, ?_⟩
  have e : its.toArray.toList.countP (fun u => PyData.eqv (SeqAt.readOf s.heap u) d) = ds.countP fun z => PyData.eqv z d := by
    rw [← hmap, List.countP_map]; rfl
  rw [e]
  exact ⟨.int _, H, I.tok _, ⟨_, rfl⟩, q⟩
end
section
variable {c : Cz} {K : PySem.W.Frag} {ρ : List DV}
theorem ty_list {H : Hp} {M : List Addr} {v : V} {xs : List D} (h : VOk K (hid M H) v (.d (.list xs))) : tyV K "list" v H := by
  obtain ⟨a, vs, rfl, h1, _⟩ := dq_list h
  exact .inl ⟨rfl, vs, sqL_of h1⟩
theorem rm_count {d : D} {ds : List D} (c1 : PyData.canLayAll0 ds = true) (c2 : d.canLay0 = true) (hz : min (PyData.depthAll ds) d.depth ≤ 60) : RMX c rCntD (.d (.list ds)) [.d d] (.d (.int (ds.countP fun z => PyData.eqv z d : Nat))) := fun H1 _ _ v vs hv ha Q q => by
  obtain ⟨w, rfl, o⟩ := args1 ha
  obtain ⟨a, ws, rfl, _, _⟩ := dq_list hv
  exact ⟨a, w, d, ds, rfl, rfl, dq_up _ _ hv, dq_up _ _ o, c1, c2, hz, q _ H1 (Same.refl _) (Dq.int _)⟩
theorem rm_index {d z : D} {ds : List D} {j : Nat} (c1 : SeqAt.shaped (.list ds) = true) (c2 : SeqAt.shaped d = true) (h1 : ds[j]? = some z) (h2 : PyData.eqv z d = true) (h3 : ∀ m z', m < j → ds[m]? = some z' → PyData.eqv z' d = false) : RMX c (rIndexD c.K) (.d (.list ds)) [.d d] (.d (.int (j : Nat))) := fun H1 _ _ v vs hv ha Q q => by
  obtain ⟨w, rfl, o⟩ := args1 ha
  obtain ⟨a, ws, rfl, _, _⟩ := dq_list hv
  exact ⟨a, w, d, ds, j, z, rfl, rfl, dq_dp _ _ (dq_up _ _ hv), dq_dp _ _ (dq_up _ _ o), c1, c2, h1, h2, h3, q _ H1 (Same.refl _) (Dq.int _)⟩
/-- a list of values that are no data, read at once -/
theorem ev_pick {ta : TA} {tb : TE} {vs : List V} {j : Int} {v : V} (ha : EvA c ta ρ (vs.map DV.v)) (hb : EvX c tb ρ (.d (.int j))) (e : atI vs j = some v) (hz : vs.length ≤ 1000 := by decide) : EvX c (tSub K (tLst ta) tb) ρ (.v v) := fun H1 σ a Q q =>
  .inl (ha H1 σ a _ fun ws H2 s2 o2 => by
    have ew : ws = vs := by
      clear q e hz ha
      induction vs generalizing ws with
      | nil => cases o2; rfl
      | cons x vs ih =>
        cases o2 with
        | cons h t => rw [ih _ t, show _ = x from h]
    subst ew
    refine ⟨Nat.le_trans hz (by decide), fun p hp => hb _ σ ((a.same s2).same (same_new hp _)) _ fun u H3 s3 o3 => ?_⟩
    obtain rfl := dq_int o3
    exact .inl ⟨p, ws, j, v, rfl, rfl, .inl (.inl (s3 _ _ upd_same)), e, q v H3 (s2.trans ((same_new hp _).trans s3)) rfl⟩)
end
/-! ### a def as a value -/
section
variable {X : Cx} {CX : CXT} {k : Nat} {x : Str} {ps : List Str} {sp : Sp} {pos : Pos} {fe : Expr} {tf : TE} {W : WX} {es : List Expr} {t : TA} {E : L2.St → XK}
theorem fn_at (F : FnIs X.prog X.w X.K X.mg X.base CX k x ps sp) : X.mg x = some (.ref (xa X.mg x)) := by
  obtain ⟨f, fd, _, hm, _⟩ := F
  have : xa X.mg x = f := by unfold xa; rw [hm]
  rw [this]; exact hm
theorem pe_fn (F : FnIs X.prog X.w X.K X.mg X.base CX k x ps sp) (hg : Gl X x := by rfl) (hd : (x == ("__debug__" : Str)) = false := by decide) : PE X (.Name x pos) (tC (.ref (xa X.mg x))) := pe_glob hg (fn_at F) rfl hd
/-- f(..), f one of the defs told -/
def tCallV (L : List (Addr × Sp)) (E : L2.St → XK) (tf : TE) (t : TA) : TE := fun σ H Q => tf σ H fun v H1 => ∃ c ∈ L, v = .ref c.1 ∧ t σ H1 fun vs H2 => c.2 vs H2 Q (E σ)
/-- what is told of such a def -/
def FnV (X : Cx) (CX : CXT) (k : Nat) (c : Addr × Sp) : Prop := ∃ (fd : FuncData) (ps : List Str), FnOk X.prog X.w X.K X.mg X.base CX k c.1 fd ps c.2 ∧ PySem.W.keepIn X.K (.ref c.1) = true ∧ Binds X.K fd ps []
theorem FnIs.v (F : FnIs X.prog X.w X.K X.mg X.base CX k x ps sp) {j : Nat} (h : k ≤ j) : FnV X CX j (xa X.mg x, sp) := by
  obtain ⟨f, fd, G, hm, hk, hb⟩ := F
  have : xa X.mg x = f := by unfold xa; rw [hm]
  rw [this]
  exact ⟨fd, ps, G.mono h, hk, hb⟩
theorem pe_callV {L : List (Addr × Sp)} {e : Expr} (hf : PE X fe tf) (F : ∀ c ∈ L, FnV X CX k c) (hr : Room k X.A) (hx : ∀ σ, PassesAt CX X σ (E σ)) (ha : PA X (e :: es) t)
    (hev : eval (.Call fe (e :: es) [] pos) X.env = (do callWith pos (← eval fe X.env) [] (backTo pos (starEach (e :: es) X.env)) (backToKw pos (keywordEach [] X.env))))
    (he : starEach (e :: es) X.env = (false, eval e X.env) :: starEach es X.env) (hpl : (backTo pos (starEach es X.env)).any (·.1) = false) : PE X (.Call fe (e :: es) [] pos) (tCallV L E tf t) := by
  refine ⟨fun pins s σ H Q I h => ?_⟩
  refine Call_ (thn (hf.run pins s σ H _ I h) fun fv s1 ⟨v, H1, I1, rv, q1⟩ => ?_) hev
  obtain ⟨c, hc, rfl, q2⟩ := q1
  obtain rfl : fv = Value.ref c.1 := rv
  obtain ⟨fd, ps', G, hk, hb⟩ := F c hc
  refine PySem.W.callWith_K (h₀ := X.base) I1.ok.mod.kin hk
    (thn (ha.run pos pins s1 σ H1 _ I1 q2) fun us s2 ⟨vs, H2, I2, r, w2⟩ => ⟨I2.kIn, ?_⟩) he hpl
  exact run_fnS G hr hb (hx σ) I2 r w2
end
section
variable {c : Cz} {ρ : List DV} {tf : TE} {ta : TA} {L : List (Addr × Sp)} {W : WX} {ok : List DV → DV → Prop} {bad : List DV → Value → Prop} {f : Addr}
/-- a call by value in a try that gives -/
theorem ev_callV {xs : List DV} {x : DV} (hf : EvX c tf ρ (.v (.ref f))) (hL : (f, spX c.K ok bad) ∈ L) (ha : EvA c ta ρ xs) (h : ok xs x) : EvX c (tCallV L (WE W) tf ta) ρ x := fun H1 σ a Q q => hf H1 σ a _ fun v H2 s2 o2 => by
  obtain rfl : v = V.ref f := o2
  refine ⟨_, hL, rfl, ha H2 σ (a.same s2) _ fun vs H3 s3 o3 => ?_⟩
  exact ⟨c.M, xs, ((a.same s2).same s3).lv, o3, .inl ⟨x, h, fun v H4 s4 o4 => q v H4 (s2.trans (s3.trans s4)) o4⟩⟩
/-- a call by value in a try that raises -/
theorem bad_callV {K : PySem.W.Frag} {M : List Addr} {H : Hp} {σ : L2.St} {xs : List DV} {C : Value} {Q : VK} (s : Sta K M H σ ρ) (hf : EvX (cz K M H) tf ρ (.v (.ref f))) (hL : (f, spX K ok bad) ∈ L) (ha : EvA (cz K M H) ta ρ xs) (h : bad xs C)
    (q : ∀ H', Same H H' → Sta K M H' σ ρ → W C none σ H') : tCallV L (WE W) tf ta σ H Q := hf H σ s.at _ fun v H2 s2 o2 => by
  obtain rfl : v = V.ref f := o2
  refine ⟨_, hL, rfl, ha H2 σ (s.at.same s2) _ fun vs H3 s3 o3 => ?_⟩
  exact ⟨M, xs, ((s.same s2).same s3).lv, o3, .inr ⟨C, h, fun H4 s4 => q H4 (s2.trans (s3.trans s4)) (((s.same s2).same s3).same s4)⟩⟩
end
end TD
set_option Elab.async false
set_option linter.all false
set_option maxRecDepth 100000
set_option maxHeartbeats 400000
/-! Texts cut at a sign, joined; schemes as text. -/
namespace TP
open PySem TD L2
/-- x cut at each c -/
def splitC (c : Nat) : W → List W
  | [] => [[]]
  | x :: r => if x = c then [] :: splitC c r else match splitC c r with
    | [] => [[x]]
    | p :: ps => (x :: p) :: ps
theorem splitC_ne (c : Nat) : ∀ x : W, splitC c x ≠ []
  | [] => by simp [splitC]
  | x :: r => by
    unfold splitC
    split
    · simp
    · split <;> simp
theorem splitC_hit (c : Nat) (r : W) : splitC c (c :: r) = [] :: splitC c r := by rw [splitC, if_pos rfl]
theorem splitC_miss {c x : Nat} (h : x ≠ c) (r : W) : splitC c (x :: r) = (match splitC c r with | [] => [[x]] | p :: ps => (x :: p) :: ps) := by rw [splitC, if_neg h]
theorem spl_splitC (c : Nat) : ∀ (x acc : W), TL.spl [c] 0 acc x = (match splitC c x with | [] => [acc] | p :: ps => (acc ++ p) :: ps)
  | [], acc => by rw [TL.spl_nil]; simp [splitC]
  | x :: r, acc => by
    by_cases h : x = c
    · subst h
      have h1 : TL.pre [x] (x :: r) = true := TL.pre_self [x] r
      rw [TL.spl_hit h1]
      show acc :: TL.spl [x] 0 [] r = _
      rw [spl_splitC x r [], splitC_hit]
      cases e : splitC x r with
      | nil => exact absurd e (splitC_ne x r)
      | cons p ps => simp
    · have h1 : TL.pre [c] (x :: r) = false := TL.pre_of_head [] r h
      rw [TL.spl_miss h1, spl_splitC c r (acc ++ [x]), splitC_miss h]
      cases e : splitC c r with
      | nil => exact absurd e (splitC_ne c r)
      | cons p ps => simp
theorem split_sw (x : W) {c : Nat} (hc : c < 256) : Txt.split (sw x) (sw [c]) = (splitC c x).map sw := by
  apply TL.map_tl_inj
  have e1 : TL.tl (sw [c]) = [c] := tl_sw [c]
  have e2 : TL.tl (sw x) = x := tl_sw x
  rw [TL.split_spl _ _ (by rw [e1]; simp) (TL.kind_ok (by simp [sw, hc])), e1, e2, spl_splitC, List.map_map]
  have e3 : (TL.tl ∘ sw) = (id : List Nat → List Nat) := by funext l; exact tl_sw l
  rw [e3, List.map_id]
  cases e : splitC c x with
  | nil => exact absurd e (splitC_ne c x)
  | cons p ps => simp
theorem splitC_len (c : Nat) : ∀ x : W, (splitC c x).length ≤ x.length + 1
  | [] => by simp [splitC]
  | x :: r => by
    have ih := splitC_len c r
    unfold splitC
    split
    · simp; exact ih
    · split
      · simp
      · rename_i p ps e; rw [e] at ih; simp at ih ⊢; omega
theorem splitC_each (c : Nat) : ∀ (x : W), ∀ p ∈ splitC c x, p.length ≤ x.length
  | [], p, hp => by simp [splitC] at hp; subst hp; simp
  | x :: r, p, hp => by
    have ih := splitC_each c r
    unfold splitC at hp
    split at hp
    · rcases List.mem_cons.mp hp with rfl | hp
      · simp
      · have := ih p hp; simp; omega
    · split at hp
      · simp at hp; subst hp; simp
      · rename_i q ps e
        rw [e] at ih
        rcases List.mem_cons.mp hp with rfl | hp
        · have := ih q List.mem_cons_self; simp; omega
        · have := ih p (List.mem_cons_of_mem _ hp); simp; omega
theorem splitC_last {c : Nat} : ∀ {p : W}, c ∉ p → splitC c p = [p]
  | [], _ => rfl
  | x :: r, h => by
    unfold splitC
    rw [if_neg (fun e => h (by rw [e]; exact List.mem_cons_self)), splitC_last fun m => h (List.mem_cons_of_mem _ m)]
theorem splitC_app {c : Nat} {r : W} : ∀ {p : W}, c ∉ p → splitC c (p ++ c :: r) = p :: splitC c r
  | [], _ => by
    show splitC c (c :: r) = _
    rw [splitC, if_pos rfl]
  | x :: p, h => by
    show splitC c (x :: (p ++ c :: r)) = _
    rw [splitC, if_neg (fun e => h (by rw [e]; exact List.mem_cons_self)), splitC_app fun m => h (List.mem_cons_of_mem _ m)]
/-! schemes as text -/
def lineW (p : W × W) : W := p.1 ++ [32] ++ p.2 ++ [10]
def fmtW (s : Sc) : W := (s.map lineW).flatten
/-- what a text is read as, rows of parts -/
def rowsD (x : W) : D := .tuple ((splitC 10 x).dropLast.map fun l => .tuple ((splitC 32 l).map ds))
theorem low_no {w : W} (h : w.all low = true) {c : Nat} (hc : c ∉ lowers) : c ∉ w := fun m => hc (of_decide_eq_true (List.all_eq_true.mp h c m))
theorem split_fmt {s : Sc} (h : ∀ p ∈ s, p.1.all low = true ∧ p.2.all low = true) : splitC 10 (fmtW s) = (s.map fun p => p.1 ++ [32] ++ p.2) ++ [[]] := by
  induction s with
  | nil => rfl
  | cons p s ih =>
    have hp := h p List.mem_cons_self
    have n10 : 10 ∉ p.1 ++ [32] ++ p.2 := by
      have a := low_no hp.1 (c := 10) (by decide)
      have b := low_no hp.2 (c := 10) (by decide)
      simp [a, b]
    have e : fmtW (p :: s) = (p.1 ++ [32] ++ p.2) ++ 10 :: fmtW s := by
      show lineW p ++ fmtW s = _
      unfold lineW
      simp
    rw [e, splitC_app n10, ih fun q hq => h q (List.mem_cons_of_mem _ hq)]
    rfl
theorem rows_fmt {s : Sc} (h : Scheme s) : rowsD (fmtW s) = encS s := by
  unfold rowsD
  rw [split_fmt fun p hp => ⟨h.src2 p hp, h.tgt2 p hp⟩, List.dropLast_concat, List.map_map]
  show PyData.tuple _ = PyData.tuple _
  congr 1
  apply List.map_congr_left
  intro p hp
  have a := low_no (h.src2 p hp) (c := 32) (by decide)
  have b := low_no (h.tgt2 p hp) (c := 32) (by decide)
  show PyData.tuple ((splitC 32 (p.1 ++ [32] ++ p.2)).map ds) = encP p
  rw [List.append_assoc, show ([32] ++ p.2 : W) = 32 :: p.2 from rfl, splitC_app a, splitC_last b]
  rfl
theorem not_fmt {x : W} (h : isScheme (rowsD x) = false) : ∀ s, Scheme s → fmtW s ≠ x := fun s hs e => by
  rw [← e, rows_fmt hs, isScheme_iff.mpr ⟨s, rfl, hs⟩] at h
  cases h
theorem small_rows {x : W} (h : x.length ≤ 100000) : small (rowsD x) := by
  have h1 := splitC_len 10 x
  refine ⟨by rw [List.length_map, List.length_dropLast]; omega, smallAll_of fun y hy => ?_⟩
  obtain ⟨l, hl, rfl⟩ := List.mem_map.mp hy
  have h2 := splitC_each 10 x l ((List.dropLast_sublist _).subset hl)
  have h3 := splitC_len 32 l
  refine ⟨by rw [List.length_map]; omega, smallAll_of fun y hy => ?_⟩
  obtain ⟨q, hq, rfl⟩ := List.mem_map.mp hy
  exact small_ds (by have := splitC_each 32 l q hq; omega)
theorem fmt_len {s : Sc} (h : Scheme s) : (fmtW s).length ≤ 80 := by
  have := flat_le (l := s.map lineW) (b := 8) fun y hy => by
    obtain ⟨p, hp, rfl⟩ := List.mem_map.mp hy
    have := h.src1 p hp
    have := h.tgt1 p hp
    simp [lineW]; omega
  rw [List.length_map] at this
  have := h.ten
  unfold fmtW
  omega
theorem fmt_head {s : Sc} (h : Scheme s) : ∃ c r, fmtW s = c :: r ∧ c ∈ lowers := by
  have h1 := h.one
  cases s with
  | nil => simp at h1
  | cons p s =>
    have a := h.src1 p List.mem_cons_self
    have b := h.src2 p List.mem_cons_self
    obtain ⟨u, v⟩ := p
    cases u with
    | nil => simp at a
    | cons c u =>
      refine ⟨c, u ++ [32] ++ v ++ [10] ++ fmtW s, ?_, of_decide_eq_true (List.all_eq_true.mp b c List.mem_cons_self)⟩
      show lineW (c :: u, v) ++ fmtW s = _
      unfold lineW
      simp
theorem fmt_end {s : Sc} (h : Scheme s) : ∃ r c, fmtW s = r ++ [c, 10] ∧ c ∈ lowers := by
  have h1 := h.one
  have hne : s ≠ [] := fun e => by rw [e] at h1; simp at h1
  have hs := List.dropLast_concat_getLast hne
  have hm : s.getLast hne ∈ s := List.getLast_mem hne
  have a := h.tgt1 _ hm
  have b := h.tgt2 _ hm
  generalize s.getLast hne = p at *
  have hv : p.2 ≠ [] := fun e => by rw [e] at a; simp at a
  have hp := List.dropLast_concat_getLast hv
  refine ⟨fmtW s.dropLast ++ p.1 ++ [32] ++ p.2.dropLast, p.2.getLast hv, ?_, of_decide_eq_true (List.all_eq_true.mp b _ (List.getLast_mem hv))⟩
  have e : fmtW s = fmtW s.dropLast ++ lineW p := by
    conv => lhs; rw [← hs]
    unfold fmtW
    rw [List.map_append, List.flatten_append]
    simp
  rw [e]
  unfold lineW
  conv => lhs; rw [← hp]
  simp
theorem end_inj {r r' : W} {a b c d : Nat} (e : r ++ [a, b] = r' ++ [c, d]) : r = r' ∧ a = c ∧ b = d := by
  have := List.append_inj' e rfl
  simp at this
  exact ⟨this.1, this.2.1, this.2.2⟩
theorem bad_cut {s : Sc} (h : Scheme s) : ∀ t, Scheme t → fmtW t ≠ (fmtW s).dropLast := fun t ht e => by
  obtain ⟨r, c, e1, hc⟩ := fmt_end h
  obtain ⟨r2, c2, e2, hc2⟩ := fmt_end ht
  rw [e1, e2, List.dropLast_append_of_ne_nil (by simp)] at e
  have e3 : r2 ++ [c2, 10] = r ++ [c] := e
  have e4 : r2 ++ [c2] ++ [10] = r ++ [c] := by rw [List.append_assoc]; exact e3
  have e5 := (List.append_inj' e4 rfl).2
  simp at e5
  rw [← e5] at hc
  revert hc; decide
theorem bad_more {s : Sc} (h : Scheme s) : ∀ t, Scheme t → fmtW t ≠ fmtW s ++ [10] := fun t ht e => by
  obtain ⟨r, c, e1, hc⟩ := fmt_end h
  obtain ⟨r2, c2, e2, hc2⟩ := fmt_end ht
  rw [e1, e2] at e
  have e4 : r2 ++ [c2, 10] = (r ++ [c]) ++ [10, 10] := by rw [e]; simp
  have := (end_inj e4).2.1
  rw [this] at hc2
  revert hc2; decide
theorem bad_front {s : Sc} : ∀ t, Scheme t → fmtW t ≠ [32] ++ fmtW s := fun t ht e => by
  obtain ⟨c, r, e1, hc⟩ := fmt_head ht
  rw [e1] at e
  have : c = 32 := by simp at e; exact e.1
  rw [this] at hc
  revert hc; decide
theorem fmt_inj {s t : Sc} (hs : Scheme s) (ht : Scheme t) (e : fmtW s = fmtW t) : s = t := by
  have := congrArg rowsD e
  rw [rows_fmt hs, rows_fmt ht] at this
  have e2 : s.map encP = t.map encP := PyData.tuple.inj this
  clear this e hs ht
  induction s generalizing t with
  | nil => cases t with
    | nil => rfl
    | cons q t => simp at e2
  | cons p s ih => cases t with
    | nil => simp at e2
    | cons q t =>
      rw [List.map_cons, List.map_cons] at e2
      injection e2 with a b
      rw [encP_inj a, ih b]
theorem encS_inj {s t : Sc} (e : encS s = encS t) : s = t := by
  have e2 : s.map encP = t.map encP := PyData.tuple.inj e
  clear e
  induction s generalizing t with
  | nil => cases t with
    | nil => rfl
    | cons q t => simp at e2
  | cons p s ih => cases t with
    | nil => simp at e2
    | cons q t =>
      rw [List.map_cons, List.map_cons] at e2
      injection e2 with a b
      rw [encP_inj a, ih b]
end TP
namespace TD
open PySem PySem.Spec PyProof.Rows L2 TP
section
variable {c : Cz} {K : PySem.W.Frag}
theorem rm_split {x : W} {k : Nat} (hk : k < 256) (h : Fits x.length) : RMX c (fun x xs H Q => ∃ a b, x = .str a ∧ xs = [.str b] ∧ (b.length == 0) = false ∧ a.length + 2 ≤ sizeLine ∧ rNewStrs (Txt.split a b) H Q) (.d (ds x)) [.d (ds [k])] (.d (encW (splitC k x))) := fun H1 _ l v vs hv ha Q q => by
  obtain ⟨w, rfl, o⟩ := args1 ha
  refine ⟨sw x, sw [k], dq_str hv, by rw [dq_str o], rfl, ?_, fun p hp => ?_⟩
  · rw [sw_len]
    have : x.length ≤ 1000000 := h
    show x.length + 2 ≤ 2 ^ 24
    omega
  · rw [split_sw x hk]
    refine q _ _ (same_new hp _) (new_lst l hp ?_)
    rw [List.map_map]
    exact dqAll_ws _
theorem join_swA (a : W) (xs : List W) : Txt.join (sw a) (xs.map sw) = sw (TL.joinL a xs) := by
  apply TL.ext_tl
  rw [TL.join_eq, TL.tl_join, List.map_map]
  have e0 : TL.tl (sw a) = a := tl_sw a
  have e : (TL.tl ∘ sw) = (id : List Nat → List Nat) := by funext l; exact tl_sw l
  rw [e0, e, List.map_id]
theorem join_size {a : W} {xs : List W} (h : xs.flatten.length + xs.length * a.length ≤ 1000000) : ((xs.map sw).map (·.length)).sum + (xs.map sw).length * (sw a).length ≤ 16777216 := by
  have e2 : ((xs.map sw).map (·.length)).sum = xs.flatten.length := by
    rw [List.length_flatten, List.map_map]
    refine congrArg List.sum ?_
    apply List.map_congr_left
    intro l _
    exact sw_len l
  rw [e2, List.length_map, sw_len]
  omega
theorem rm_joinT {a : W} {xs : List W} (h : xs.flatten.length + xs.length * a.length ≤ 1000000) : RMX c (rJoin K) (.d (ds a)) [.d (.tuple (xs.map ds))] (.d (ds (TL.joinL a xs))) := fun H1 _ _ v vs hv ha Q q => by
  obtain ⟨w, rfl, o⟩ := args1 ha
  obtain ⟨p, ob, ws, rfl, h1, h0, h2⟩ := dq_tuple o
  have e : (xs.map ds) = (xs.map sw).map PyData.str := by rw [List.map_map]; rfl
  rw [e] at h2
  obtain rfl := dqAll_strs h2
  exact ⟨sw a, p, xs.map sw, dq_str hv, rfl, .inr (sqT_of h1), join_size h, by rw [join_swA]; exact q _ H1 (Same.refl _) (Dq.str _)⟩
theorem rm_joinL {a : W} {xs : List W} (h : xs.flatten.length + xs.length * a.length ≤ 1000000) : RMX c (rJoin K) (.d (ds a)) [.d (encW xs)] (.d (ds (TL.joinL a xs))) := fun H1 _ _ v vs hv ha Q q => by
  obtain ⟨w, rfl, o⟩ := args1 ha
  obtain ⟨p, ws, rfl, h1, h2⟩ := dq_list o
  have e : (xs.map ds) = (xs.map sw).map PyData.str := by rw [List.map_map]; rfl
  rw [e] at h2
  obtain rfl := dqAll_strs h2
  exact ⟨sw a, p, xs.map sw, dq_str hv, rfl, .inl (sqL_of h1), join_size h, by rw [join_swA]; exact q _ H1 (Same.refl _) (Dq.str _)⟩
theorem rm_joinP {p : W × W} (h : p.1.length + p.2.length ≤ 1000) : RMX c (rJoin K) (.d (ds [32])) [.d (encP p)] (.d (ds (p.1 ++ [32] ++ p.2))) := by
  have := rm_joinT (c := c) (K := K) (a := [32]) (xs := [p.1, p.2]) (by simp; omega)
  have e : TL.joinL [32] [p.1, p.2] = p.1 ++ [32] ++ p.2 := by simp [TL.joinL]
  rw [e] at this
  exact this
end
end TD
set_option Elab.async false
set_option linter.all false
set_option maxRecDepth 100000
set_option maxHeartbeats 400000
/-! The def that tells which exception it was. -/
namespace TD
open PySem PySem.Spec PyProof.Rows L2 TP
/-- a def of the module, called in a suite -/
def FnIsE (P : Program) (w : World) (K : PySem.W.Frag) (mg : Str → Option Value) (base : Heap) (k : Nat) (x : Str) (ps : List Str) (sp : Addr → Value → Option Addr → Sp) : Prop :=
  ∃ (f : Addr) (fd : FuncData), FnE P w K mg base k f fd ps sp ∧ mg x = some (.ref f) ∧ PySem.W.keepIn K (.ref f) = true ∧ Binds K fd ps []
section
variable {Y : Cx} {k : Nat} {x : Str} {ps : List Str} {sp : Addr → Value → Option Addr → Sp} {a : Addr} {oe : Obj} {pn : List (Addr × Obj)} {cls : Value} {d : Option Addr} {q pos : Pos} {e : Expr} {es : List Expr} {t : TA}
theorem pe_callEI (F : FnIsE Y.prog Y.w Y.K Y.mg Y.base k x ps sp) (hr : Room k Y.A) (hz : L2N.Zn cls d oe) (hf : ∃ vs, oe.data = .fields vs)
    (ha : PA (Y.suite a ((a, oe) :: pn)) (e :: es) t) (hg : Gl Y x := by rfl) (hdb : (x == ("__debug__" : Str)) = false := by decide) (he : starEach (e :: es) Y.env = (false, eval e Y.env) :: starEach es Y.env := by rfl) (hpl : (backTo pos (starEach es Y.env)).any (·.1) = false := by rfl) :
    PE (Y.suite a ((a, oe) :: pn)) (.Call (.Name x q) (e :: es) [] pos) (tCallS (sp a cls d) (fun _ => E0) t) := by
  obtain ⟨f, fd, G, hm, hk, hb⟩ := F
  exact pe_callE G hr hz hf hg hm hk hb ha hdb he hpl
end
section
variable {P : Program} {w : World} {K : PySem.W.Frag} {mg : Str → Option Value} {base : Heap}
theorem def_okE {x : Str} {st : Stmt} {N ps : List Str} {k : Nat} {sp : Addr → Value → Option Addr → Sp} (d : ∃ f, DefAt K x st f) (hmg : ∀ f, PySem.W.nsIn K mainGlobals x = some (some (.ref f)) → mg x = some (.ref f)) (S : FnScope N ps (defScope st))
    (hbind : ∀ (kV doc pm : Value) (an : Option Addr) (cdv ct : Value) (us : List Value), us.length = ps.length → bindArgs (PySem.W.fnOf x x (defArgs st) (defBody st) (defScope st) .none kV doc pm an cdv ct) ⟨us, []⟩ = pure (ps.zip us))
    (len : ∀ a cls d vs H Q E, sp a cls d vs H Q E → vs.length = ps.length)
    (body : ∀ (f : Addr) (cdv : Value) (A : Around) (outer : List PySem.Env) (s : Shared) (H : Hp) (vs : List V) (Q : VK) (E : XK) (p : Addr × Obj) (cls : Value) (dd : Option Addr), L2H.Hot1 A p → L2N.Zn cls dd p.2 → L2H.RoomH k (A.deeper (envOfC x (defScope st) s.heap.objs.size f cdv)) → sp p.1 cls dd vs H Q E →
      ∃ t, PSs (L2H.cxH (L2N.CX P w) P w K mg base N x (defScope st) f cdv A outer s H E p) (defBody st) t ∧ t { nx := fun _ H' => Q .non H', rt := Q } (L2.start N vs) H) :
    FnIsE P w K mg base (k + 1) x ps sp := by
  obtain ⟨f, at_, ⟨oc, od, kV, doc, pm, an, cdv, ct, osl, lk, cd⟩, kp⟩ := d
  have F := fun_mk (st := st) lk cd kp
  exact ⟨f, _, fnE_of lk cd S len fun A outer s H vs Q E p cls dd hot zn hr h => body f cdv A outer s H vs Q E p cls dd hot zn hr h, hmg f at_, kp, F.binds hbind⟩
end
/-- the exceptions by their number -/
def whichAll : List (Str × Int) := [("InvalidScheme", 0), ("InvalidWord", 1), ("InvalidText", 2), ("Unreadable", 3), ("NoMarking", 4), ("InvalidChain", 5), ("InvalidFormat", 6)]
structure WhichT (K : PySem.W.Frag) (mg : Str → Option Value) (x : Str) (j : Int) : Prop where
  c : ExcC K (xa mg x)
  v : PySem.W.subIn K (.ref (xa mg x)) (.type "ValueError") = some true
  i : ∀ (y : Str) (i : Int), (y, i) ∈ whichAll → PySem.W.kitOne K (.ref (xa mg x)) (.ref (xa mg y)) = some (decide (i = j))
  j0 : j = 0 ∨ j = 1 ∨ j = 2 ∨ j = 3 ∨ j = 4 ∨ j = 5 ∨ j = 6
theorem kit_ref {K : PySem.W.Frag} {mg : Str → Option Value} {x y : Str} {b : Bool} (U : ExcT K mg y) (h0 : PySem.W.subIn K (.ref (xa mg x)) (.ref (xa mg x)) = some true) (h : PySem.W.subIn K (.ref (xa mg x)) (.ref (xa mg y)) = some b) : PySem.W.kitOne K (.ref (xa mg x)) (.ref (xa mg y)) = some b := by
  unfold PySem.W.kitOne
  by_cases e : ((Value.ref (xa mg x)) == Value.ref (xa mg y)) = true
  · rw [if_pos e]
    have e1 : xa mg x = xa mg y := Value.ref.inj (beq_iff_eq.mp e)
    rw [← e1, h0] at h
    exact h
  · rw [if_neg e]
    unfold PySem.W.kitCls
    have h2' : (PySem.W.clsIn K (xa mg y)).isSome = true := U.i
    have e2 : ((PySem.W.clsIn K (xa mg y)).isSome && PySem.W.typeIn K (.ref (xa mg y)) == some (.type "type")) = true := by
      rw [h2', U.t] <;> rfl
    show (if ((PySem.W.clsIn K (xa mg y)).isSome && PySem.W.typeIn K (.ref (xa mg y)) == some (.type "type")) = true then PySem.W.subIn K (.ref (xa mg x)) (.ref (xa mg y)) else none) = some b
    rw [if_pos e2]
    exact h
theorem WhichT.val {K : PySem.W.Frag} {mg : Str → Option Value} {x : Str} {j : Int} (W : WhichT K mg x j) : PySem.W.kitOne K (.ref (xa mg x)) (.type "ValueError") = some true := by
  unfold PySem.W.kitOne
  rw [if_neg (by intro z; cases beq_iff_eq.mp z)]
  unfold PySem.W.kitCls
  show (if PySem.W.kitMeta "ValueError" = true then _ else _) = _
  rw [if_pos (by decide +kernel)]
  exact W.v
theorem excc_mk {K : PySem.W.Frag} {x : Str} {C : Addr} (a : PySem.W.nsIn K mainGlobals x = some (some (.ref C))) (hg : PySem.W.findIn K (.ref C) "__getattribute__" = some (some (.builtin "BaseException.__getattribute__")))
    (hk : PySem.W.findIn K (.ref C) "__getattr__" = some none) (hs : PySem.W.subIn K (.ref C) (.type "BaseException") = some true) (hd : PySem.W.hasDictIn K C = true) (ha : PySem.W.findIn K (.ref C) "__class__" = some (some (.builtin "object.__class__")))
    (hn : PySem.W.specialIn K (.builtin "object.__class__") "__get__" = some (some (.builtin "getset_descriptor.__get__"))) (ht : PySem.W.takesIn K (.builtin "object.__class__") = some true) (hm : PySem.W.mroIn K C (.type "object") = some true) (hv : PySem.W.subIn K (.ref C) (.type "ValueError") = some true) :
    ∃ C : Addr, PySem.W.nsIn K mainGlobals x = some (some (.ref C)) ∧ ExcC K C ∧ PySem.W.subIn K (.ref C) (.type "ValueError") = some true := ⟨C, a, ⟨hg, hk, hs, hd, ha, hn, ht, hm⟩, hv⟩
theorem which_mk {K : PySem.W.Frag} {mg : Str → Option Value} {x : Str} {j : Int} (hm : Left K mg) (h : ∃ C : Addr, PySem.W.nsIn K mainGlobals x = some (some (.ref C)) ∧ ExcC K C ∧ PySem.W.subIn K (.ref C) (.type "ValueError") = some true)
    (hi : ∀ (y : Str) (i : Int), (y, i) ∈ whichAll → ExcT K mg y ∧ PySem.W.subIn K (.ref (xa mg x)) (.ref (xa mg y)) = some (decide (i = j))) (hj : (x, j) ∈ whichAll) : WhichT K mg x j := by
  obtain ⟨C, a, c, v⟩ := h
  have e := xa_of hm a
  refine ⟨by rw [e]; exact c, by rw [e]; exact v, fun y i hy => ?_, ?_⟩
  · have h0 := (hi x j hj).2
    rw [decide_eq_true rfl] at h0
    exact kit_ref (hi y i hy).1 h0 (hi y i hy).2
  · simp only [whichAll, List.mem_cons, Prod.mk.injEq, List.not_mem_nil, or_false] at hj
    rcases hj with h | h | h | h | h | h | h <;> simp [h.2]
abbrev raisedW : W := [114, 97, 105, 115, 101, 100]
abbrev raisedD (j : Int) : D := .tuple [ds raisedW, .int j]
/-- which exception the held one is -/
def spW (K : PySem.W.Frag) (mg : Str → Option Value) : Addr → Value → Option Addr → Sp := fun a cls d vs H Q _ => ∃ (x : Str) (j : Int) (M : List Addr), WhichT K mg x j ∧ cls = .ref (xa mg x) ∧ d = none ∧ vs = [.ref a] ∧ Live M H ∧ ∀ v H', Same H H' → VOk K (hid M H') v (.d (raisedD j)) → Q v H'
section
variable {c : Cz} {ρ : List DV} {ta : TA} {K : PySem.W.Frag} {mg : Str → Option Value} {x : Str} {j : Int} {a : Addr}
theorem ev_which (W : WhichT c.K mg x j) (ha : EvA c ta ρ [.v (.ref a)]) : EvX c (tCallS (spW c.K mg a (.ref (xa mg x)) none) (fun _ => E0) ta) ρ (.d (raisedD j)) := fun H1 σ a Q q => ha H1 σ a _ fun vs H2 s2 o2 => by
  obtain ⟨v, rfl, o⟩ := args1 o2
  obtain rfl : v = V.ref _ := o
  exact ⟨x, j, c.M, W, rfl, rfl, rfl, (a.same s2).lv, fun v H3 s3 o3 => q v H3 (s2.trans s3) o3⟩
theorem rc_isE {D : Addr} {y : Str} {b : Bool} (h : PySem.W.kitOne K (.ref D) (.ref (xa mg y)) = some b) : RCX c (rIsE K D a) [.v (.ref a), .v (.ref (xa mg y))] (.d (.bool b)) := fun H1 g l vs ha Q q => by
  obtain ⟨v, w, rfl, o1, o2⟩ := args2 ha
  obtain rfl : v = V.ref a := o1
  obtain rfl : w = V.ref (xa mg y) := o2
  exact ⟨_, _, b, rfl, fun u r => by cases r; rfl, h, q _ H1 (Same.refl _) (Dq.bl _)⟩
theorem rc_isV {D : Addr} {b : Bool} (h : PySem.W.kitOne K (.ref D) (.type "ValueError") = some b) : RCX c (rIsE K D a) [.v (.ref a), .v (.ty "ValueError")] (.d (.bool b)) := fun H1 g l vs ha Q q => by
  obtain ⟨v, w, rfl, o1, o2⟩ := args2 ha
  obtain rfl : v = V.ref a := o1
  obtain rfl : w = V.ty "ValueError" := o2
  exact ⟨_, _, b, rfl, fun u r => r, h, q _ H1 (Same.refl _) (Dq.bl _)⟩
end
theorem roomH_u {k : Nat} {A : Around} (r : L2H.RoomH k A) : A.units + 65 < cLine := by have := r.un; omega
theorem roomH_u4 {k : Nat} {A : Around} (r : L2H.RoomH k A) : A.units + 64 < cLine := by have := r.un; omega
theorem MtR.k {X : Cx} {K : PySem.W.Frag} {id : String} {r : PySem.W.Frag → V → List V → Hp → VK → Prop} (h : MtR X id (r X.K)) (hK : X.K = K) : MtR X id (r K) := hK ▸ h
theorem cut_init {α : Type} (xs : List α) (k : Nat) (h : 1 ≤ k) : cutL xs none (some (-(k : Int))) = xs.take (xs.length - k) := by
  unfold cutL HT.sIx
  have h' : (-(k : Int)) < 0 := by omega
  simp only [h', if_true, List.drop_zero, Nat.sub_zero]
  congr 1
  omega
theorem cut_last {α : Type} (xs : List α) : cutL xs none (some (-1)) = xs.dropLast := by
  have := cut_init xs 1 (Nat.le_refl _)
  rw [List.dropLast_eq_take]
  exact this
/-! slices of texts by drawn bounds -/
section
variable {c : Cz} {t : Addr} {ρ : List DV} {te : TE} {tl' th : TO} {P : DV → Prop} {K : PySem.W.Frag}
def EvOT (c : Cz) (t : Addr) (to : TO) (ρ : List DV) (P : Option Int → Prop) : Prop := Tn c t → ∀ H1 σ, At c H1 σ ρ → TownAt t H1 → ∀ Q : Option Int → Hp → Prop, (∀ o H2, P o → Gr [t] H1 H2 → TownAt t H2 → Q o H2) → to σ H1 Q
theorem eot_pure {to : TO} {o : Option Int} (h : EvO c to ρ o) : EvOT c t to ρ (· = o) := fun n H1 σ a w Q q => h H1 σ a Q fun H2 s => q o H2 rfl (Same.gr s) (w.same s)
theorem eot_some {Po : Option Int → Prop} (h : EvT c t te ρ fun x => ∃ i, x = .d (.int i) ∧ Po (some i)) : EvOT c t (tPart te) ρ Po := fun n H1 σ a w Q q => h n H1 σ a w _ fun v x H2 p g w2 o => by
  obtain ⟨i, rfl, po⟩ := p
  exact ⟨i, dq_int o, q _ H2 po g w2⟩
theorem et_slS {l : W} {Plo Phi : Option Int → Prop} (h : EvX c te ρ (.d (ds l))) (h1 : EvOT c t tl' ρ Plo) (h2 : EvOT c t th ρ Phi) (hz : Fits l.length) (hs : ∀ lo hi, Plo lo → Phi hi → P (.d (ds (cutL l lo hi)))) : EvT c t (tSl (rSlU K) te tl' th) ρ P := fun n H1 σ a w Q q =>
  h H1 σ a _ fun v H2 s2 o2 => h1 n H2 σ (a.same s2) (w.same s2) _ fun lo H3 p3 g3 w3 => h2 n H3 σ ((a.same s2).gro n g3 w3) w3 _ fun hi H4 p4 g4 w4 =>
    .inr (.inl ⟨sw l, dq_str o2, by rw [sw_len]; exact Nat.le_trans hz (by decide), by
      have e : cutS (sw l) lo hi = sw (cutL l lo hi) := by
        unfold cutS cutL
        rw [sw_len]
      rw [e]; exact q _ _ H4 (hs lo hi p3 p4) ((Same.gr s2).trans (g3.trans g4)) w4 (Dq.str _)⟩)
end
theorem plain_S (s : Sc) : (encS s).plain = true := by
  show PyData.plainAll (s.map encP) = true
  induction s with
  | nil => rfl
  | cons p s ih => show ((encP p).plain && PyData.plainAll (s.map encP)) = true; rw [ih]; rfl
theorem depthAll_S (s : Sc) : PyData.depthAll (s.map encP) ≤ 1 := by
  induction s with
  | nil => exact Nat.zero_le _
  | cons p s ih =>
    show max (encP p).depth (PyData.depthAll (s.map encP)) ≤ 1
    have : (encP p).depth = 1 := rfl
    omega
theorem depth_S (s : Sc) : (encS s).depth ≤ 60 := by
  have := depthAll_S s
  show PyData.depthAll (s.map encP) + 1 ≤ 60
  omega
theorem eqv_S_raised {s : Sc} (h : Scheme s) (j : Int) : PyData.eqv (encS s) (raisedD j) = false := by
  have h1 := h.one
  cases s with
  | nil => simp at h1
  | cons p s => rfl
theorem eqv_W_raised (w : W) (j : Int) : PyData.eqv (ds w) (raisedD j) = false := rfl
theorem pe_cls {X : Cx} {x : Str} {pos : Pos} (T : ExcT X.K X.mg x) (hg : Gl X x := by rfl) (hd : (x == ("__debug__" : Str)) = false := by decide) : PE X (.Name x pos) (tC (.ref (xa X.mg x))) := pe_glob hg T.g rfl hd
theorem pe_fnN {X : Cx} {P : Program} {w : World} {K : PySem.W.Frag} {mg : Str → Option Value} {base : Heap} {CX : CXT} {k : Nat} {x : Str} {ps : List Str} {sp : Sp} {pos : Pos} (F : FnIs P w K mg base CX k x ps sp) (h : X.mg = mg) (hg : Gl X x) (hd : (x == ("__debug__" : Str)) = false) : PE X (.Name x pos) (tC (.ref (xa mg x))) := by
  obtain ⟨f, fd, _, hm, _⟩ := F
  have e : xa mg x = f := by unfold xa; rw [hm]
  rw [e]
  exact pe_glob hg (by rw [h]; exact hm) rfl hd
theorem fnV_of {X : Cx} {P : Program} {w : World} {K : PySem.W.Frag} {mg : Str → Option Value} {base : Heap} {k j : Nat} {x : Str} {ps : List Str} {sp : Sp} (F : FnIs P w K mg base (L2N.CX P w) k x ps sp) (hk : k ≤ j) (hp : X.prog = P) (hw : X.w = w) (hK : X.K = K) (hb : X.base = base) (hm : X.mg = mg) :
    FnV X (L2N.CX X.prog X.w) j (xa mg x, sp) := by
  subst hp hw hK hb hm
  exact F.v hk
/-! several defs told -/
section
variable {X : Cx} {CX : CXT} {k : Nat}
def FnVs (X : Cx) (CX : CXT) (k : Nat) (L : List (Addr × Sp)) : Prop := ∀ c ∈ L, FnV X CX k c
theorem fnV_nil : FnVs X CX k [] := fun _ h => by simp at h
theorem fnV_cons {c : Addr × Sp} {L : List (Addr × Sp)} (h : FnV X CX k c) (r : FnVs X CX k L) : FnVs X CX k (c :: L) := fun e he => by
  rcases List.mem_cons.mp he with rfl | he
  · exact h
  · exact r e he
theorem pe_callVT {pos : Pos} {fe : Expr} {tf : TE} {W : WX} {e : Expr} {es : List Expr} {t : TA} {L : List (Addr × Sp)} (tk : L2N.Takes X W) (hr : Room k X.A) (hf : PE X fe tf) (F : FnVs X (L2N.CX X.prog X.w) k L) (ha : PA X (e :: es) t)
    (hev : eval (.Call fe (e :: es) [] pos) X.env = (do callWith pos (← eval fe X.env) [] (backTo pos (starEach (e :: es) X.env)) (backToKw pos (keywordEach [] X.env))))
    (he : starEach (e :: es) X.env = (false, eval e X.env) :: starEach es X.env) (hpl : (backTo pos (starEach es X.env)).any (·.1) = false) : PE X (.Call fe (e :: es) [] pos) (tCallV L (WE W) tf t) :=
  pe_callV hf F hr (fun σ => L2N.passAt tk σ) ha hev he hpl
end
end TD
set_option Elab.async false
set_option linter.all false
set_option maxRecDepth 100000
set_option maxHeartbeats 400000

namespace Tx
open PySem PySem.Spec PyProof.Rows L2 TD TP
def top (i : Nat) : Stmt := PySem.Challenge.pw_translit_k12_whole_formats.main.body.getD i (.Pass ⟨0, 0, 0, 0⟩)
abbrev s_TranslitError : Stmt := top 1
abbrev s_InvalidScheme : Stmt := top 2
abbrev s_InvalidWord : Stmt := top 3
abbrev s_InvalidText : Stmt := top 4
abbrev s_Unreadable : Stmt := top 5
abbrev s_NoMarking : Stmt := top 6
abbrev s_InvalidChain : Stmt := top 7
abbrev s_InvalidFormat : Stmt := top 8
abbrev s_is_string : Stmt := top 13
abbrev s_is_entry : Stmt := top 14
abbrev s_is_scheme : Stmt := top 15
abbrev s_need_scheme : Stmt := top 16
abbrev s_formatted : Stmt := top 18
abbrev s_format_scheme : Stmt := top 19
abbrev s_parse_scheme : Stmt := top 20
abbrev s__law_draw : Stmt := top 22
abbrev s__law_pick : Stmt := top 23
abbrev s__law_string : Stmt := top 24
abbrev s__law_scheme : Stmt := top 25
abbrev s__law_any : Stmt := top 27
abbrev s__law_which : Stmt := top 30
abbrev s__law_lines : Stmt := top 31
abbrev s__law_ask : Stmt := top 32
abbrev s_law : Stmt := top 33
local macro_rules | `(tactic| walk_at "rx") => `(tactic| with_reducible first
  | exact rx_addI | exact rx_sub | exact rx_ltI | exact rx_le | exact rx_ge | exact rx_gtI | exact rx_ltS
  | apply rx_addS | apply rx_addL | apply rx_addT | exact rx_eqW | exact rx_neW | exact rx_eqI | exact rx_neI | apply rx_eq | apply rx_ne
  | exact rx_inStr | exact rx_inTbl | exact rx_inW | apply rx_inLm | apply rx_inList | apply rx_inTup | exact rx_inDict | exact rx_isNon | exact rx_isBl
  | apply rx_mulS | apply rx_mulL | apply rx_mulU | apply rx_divI | apply rx_modI | apply rx_powI | exact rx_eqSc)
local macro_rules | `(tactic| walk_at "rc") => `(tactic| with_reducible first
  | apply rc_lenS | exact rc_lenLm | exact rc_lenTm | exact rc_lenL | exact rc_lenT | exact rc_lenD | exact rc_lenSc | exact rc_isaS | exact rc_isaT | exact rc_isaL | exact rc_all | exact rc_any | exact rc_all2 | exact rc_any2
  | exact rc_tupL | exact rc_tupT | exact rc_ulL | exact rc_ulT | apply rc_ulS | exact rc_ulD | exact rc_min2 | exact rc_dictS | apply rc_sortT | exact rc_sortW | exact rc_minW | exact rc_maxL | exact rc_dictL | exact rc_dictT)
local macro_rules | `(tactic| walk_at "sb") => `(tactic| first | (with_reducible apply SubX.tbl) | ((with_reducible first | apply SubX.l | apply SubX.t | apply SubX.sc); first | rfl | assumption) | (with_reducible first | apply SubX.l | apply SubX.t | apply SubX.s | apply SubX.sc | apply SubX.k | apply SubX.ki | exact SlX.lm | exact SlX.tm | exact SlX.l | exact SlX.t | apply SlX.s))
local macro_rules | `(tactic| walk_at "rm") => `(tactic| with_reducible first | exact rm_starts | apply rm_join)
local macro_rules | `(tactic| walk_at "sq") => `(tactic| with_reducible first | exact SeqX.lm | exact SeqX.tm | exact SeqX.s | exact SeqX.l | exact SeqX.t | exact ZipX.lm | exact ZipX.tm | exact ZipX.l | exact ZipX.t)
local macro_rules | `(tactic| walk_at "sz") => `(tactic| first | ((with_reducible apply SubJ.mk); decide) | ((with_reducible show Few _); unfold Few; simp) | ((with_reducible show autoParam (List.length _ = _) _); rfl))
local macro_rules | `(tactic| walk_at "ev") => `(tactic| first
  | (with_reducible first | exact ev_int | exact ev_str | exact ev_bl | exact ev_non | exact ev_c | exact ea_nil | exact eo_none | exact eb_yes | exact g_name | exact gs_nil | exact ead_nil | exact ev_nilL)
  | ((with_reducible apply ev_vd); rfl) | ((with_reducible apply ev_vk); rfl) | ((with_reducible apply ev_vv); rfl) | ((with_reducible apply ev_vs); rfl)
  | ((with_reducible first
      | apply ea_cons | apply ead_cons | apply ev_lstD | apply ev_tupD | apply ev_op | apply ev_cb | apply ev_sub | apply ev_sl | apply eo_some | apply ev_chain
      | apply ev_neg | apply ev_andV | apply ev_orV | apply ev_notV | apply ev_m1 | apply ev_bm | apply ev_call
      | apply eb_test | apply eb_not | apply eb_and | apply eb_or | apply eb_truB
      | apply ev_lcA | apply ev_lcF | apply ev_lc2A | apply ev_lc2 | apply ei_seq | apply ei_zip | apply ei_rng1 | apply ei_rng2 | apply ei_rng3
      | apply g_tup | apply g_pair | apply gs_cons)
     ; all_goals (try with_reducible intros); all_goals (try walk_at "ev"))
  | walk_at "rx" | walk_at "rc" | walk_at "cl" | walk_at "sb" | walk_at "rm" | walk_at "sq" | walk_at "sz")
local macro_rules | `(tactic| walk_at "fit") => `(tactic| (with_reducible show Fits _); first | assumption | decide | (unfold Fits; omega) | (unfold Fits; simp; omega) | (unfold Fits; simp; done))
local macro_rules | `(tactic| walk_at "go") => `(tactic| ((with_reducible first | apply EvX.is | apply EvB.is); (walk_at "ev"); all_goals (try walk_at "fit")))

local macro_rules | `(tactic| walk_at "rm") => `(tactic| with_reducible first | apply rm_split | apply rm_joinP)
local macro_rules | `(tactic| walk_at "rc") => `(tactic| with_reducible first | exact rc_isE | exact rc_isV)

/-- what the top has left beside the defs -/
structure Txt (K : PySem.W.Frag) (mg : Str → Option Value) : Prop where
  b_isinstance : mg "isinstance" = none
  b_str : mg "str" = none
  b_all : mg "all" = none
  b_len : mg "len" = none
  b_tuple : mg "tuple" = none
  b_zip : mg "zip" = none
  b_range : mg "range" = none
  b_dict : mg "dict" = none
  b_sorted : mg "sorted" = none
  b_ValueError : mg "ValueError" = none
  g_PART : ∃ t, mg "PART" = some (.int 3 t)
  g_LETTERS : ∃ t, mg "LETTERS" = some (.str (sw lowers) t)
  g_ENTRIES : ∃ t, mg "ENTRIES" = some (.int 10 t)
  x_InvalidScheme : ExcT K mg "InvalidScheme"
  x_InvalidFormat : ExcT K mg "InvalidFormat"
  x_InvalidWord : ExcT K mg "InvalidWord"
  x_InvalidText : ExcT K mg "InvalidText"
  x_Unreadable : ExcT K mg "Unreadable"
  x_NoMarking : ExcT K mg "NoMarking"
  x_InvalidChain : ExcT K mg "InvalidChain"
  x_TranslitError : ExcT K mg "TranslitError"
  s_InvalidScheme_TranslitError : PySem.W.subIn K (.ref (xa mg "InvalidScheme")) (.ref (xa mg "TranslitError")) = some true
  s_InvalidFormat_TranslitError : PySem.W.subIn K (.ref (xa mg "InvalidFormat")) (.ref (xa mg "TranslitError")) = some true
  s_InvalidScheme_InvalidScheme : PySem.W.subIn K (.ref (xa mg "InvalidScheme")) (.ref (xa mg "InvalidScheme")) = some true
  s_InvalidFormat_InvalidScheme : PySem.W.subIn K (.ref (xa mg "InvalidFormat")) (.ref (xa mg "InvalidScheme")) = some false
  s_InvalidScheme_InvalidWord : PySem.W.subIn K (.ref (xa mg "InvalidScheme")) (.ref (xa mg "InvalidWord")) = some false
  s_InvalidFormat_InvalidWord : PySem.W.subIn K (.ref (xa mg "InvalidFormat")) (.ref (xa mg "InvalidWord")) = some false
  s_InvalidScheme_InvalidText : PySem.W.subIn K (.ref (xa mg "InvalidScheme")) (.ref (xa mg "InvalidText")) = some false
  s_InvalidFormat_InvalidText : PySem.W.subIn K (.ref (xa mg "InvalidFormat")) (.ref (xa mg "InvalidText")) = some false
  s_InvalidScheme_Unreadable : PySem.W.subIn K (.ref (xa mg "InvalidScheme")) (.ref (xa mg "Unreadable")) = some false
  s_InvalidFormat_Unreadable : PySem.W.subIn K (.ref (xa mg "InvalidFormat")) (.ref (xa mg "Unreadable")) = some false
  s_InvalidScheme_NoMarking : PySem.W.subIn K (.ref (xa mg "InvalidScheme")) (.ref (xa mg "NoMarking")) = some false
  s_InvalidFormat_NoMarking : PySem.W.subIn K (.ref (xa mg "InvalidFormat")) (.ref (xa mg "NoMarking")) = some false
  s_InvalidScheme_InvalidChain : PySem.W.subIn K (.ref (xa mg "InvalidScheme")) (.ref (xa mg "InvalidChain")) = some false
  s_InvalidFormat_InvalidChain : PySem.W.subIn K (.ref (xa mg "InvalidFormat")) (.ref (xa mg "InvalidChain")) = some false
  s_InvalidScheme_InvalidFormat : PySem.W.subIn K (.ref (xa mg "InvalidScheme")) (.ref (xa mg "InvalidFormat")) = some false
  s_InvalidFormat_InvalidFormat : PySem.W.subIn K (.ref (xa mg "InvalidFormat")) (.ref (xa mg "InvalidFormat")) = some true
  w_InvalidScheme : WhichT K mg "InvalidScheme" 0
  w_InvalidFormat : WhichT K mg "InvalidFormat" 6
section
variable {P : Program} {w : World} {K : PySem.W.Frag} {mg : Str → Option Value} {base : Heap}

/-! is_string -/
inductive Ok_is_string : List DV → DV → Prop
  | t {v : D} {l m : Int} {al : W} (h : small v) : Ok_is_string [.d v, .d (.int l), .d (.int m), .d (ds al)] (.d (.bool (isStr v l m fun c => decide (c ∈ al))))
  | l {v : D} {l m : Int} {al : List W} (h : small v) : Ok_is_string [.d v, .d (.int l), .d (.int m), .d (encW al)] (.d (.bool (isStr v l m fun c => decide ([c] ∈ al))))
theorem sc_is_string : FnScope ["value", "least", "most", "allowed", "char"] ["value", "least", "most", "allowed"] (defScope s_is_string) := ⟨rfl, rfl, rfl, by decide +kernel, rfl, by decide +kernel, by decide +kernel⟩
theorem c_is_string (T : Txt K mg) (d : ∃ f, DefAt K "is_string" s_is_string f) (hm : Left K mg) : FnIs P w K mg base (L2N.CX P w) 1 "is_string" ["value", "least", "most", "allowed"] (spP K Ok_is_string) := by
  refine def_ok d (fun f e => hm _ _ e) sc_is_string (fun _ _ _ _ _ _ us hl => match us, hl with | [_, _, _, _], _ => rfl) (fun xs h => ?_) (fun f cdv A outer s H vs E hr => ⟨_, (PSs.nox (pss_one (ps_ret (pe_and (pe_callB call_isaQ (by rfl) T.b_isinstance (by decide +kernel) (pa_cons (pv 0) (pa_cons (pe_bltn (v := .ty "str") (by rfl) T.b_str (by decide +kernel) rfl) pa_nil))) (pe_and (pe_chain op_le op_le (pv 1) (pe_callB (CallR.k (K := K) (r := rLenU) call_lenU rfl) (by rfl) T.b_len (by decide +kernel) (pa_cons (pv 0) pa_nil)) (pv 2)) (pe_one (pe_callB (CallR.k (K := K) (r := rAll) (cr_all rfl) rfl) (by rfl) T.b_all (by decide +kernel) (pa_cons (pe_lc (own := [("char", 4)]) rfl sc_is_string.nd  (ki_seq (K := K) rfl (pv 0)) (blkOk_by (N := ["value", "least", "most", "allowed", "char"]) (sc := defScope s_is_string) (by decide +kernel)) (fun _ _ _ _ _ => (pg_name (i := 4) sc_is_string.nd rfl (Or.inl rfl))) (fun _ _ _ _ _ => pts_nil) (fun _ _ _ _ _ => (pe_cmpR (op_inU (by exact hr.units)) (pv 4) (pv 3) (by rfl)))) pa_nil)))))))), fun M xs Q S h => ?_⟩)
  · rcases h with ⟨_, ⟨⟩⟩ | ⟨_, ⟨⟩⟩ <;> rfl
  · rcases h with ⟨y, hy, k⟩ | ⟨_, ⟨⟩, _⟩
    cases hy with
    | t h =>
      rename_i v l m al
      refine s_ret (ρ := [.d v, .d (.int l), .d (.int m), .d (ds al), .z]) S ?_ k
      cases v with
      | str x =>
        obtain ⟨w, rfl⟩ : ∃ w, x = sw w := ⟨tl x, (sw_tl x).symm⟩
        have hz : w.length ≤ 1000000 := by rw [small, sw_len] at h; exact h
        apply EvX.is
        · walk_at "ev"
          all_goals exact hz
        · simp [isStr, PyData.isStr, Bool.and_assoc]
      | _ => exact ev_andF (x := PyData.isStr _) (by walk_at "ev") rfl
    | l h =>
      rename_i v l m al
      refine s_ret (ρ := [.d v, .d (.int l), .d (.int m), .d (encW al), .z]) S ?_ k
      cases v with
      | str x =>
        obtain ⟨w, rfl⟩ : ∃ w, x = sw w := ⟨tl x, (sw_tl x).symm⟩
        have hz : w.length ≤ 1000000 := by rw [small, sw_len] at h; exact h
        apply EvX.is
        · walk_at "ev"
          all_goals exact hz
        · simp [isStr, PyData.isStr, Bool.and_assoc]
      | _ => exact ev_andF (x := PyData.isStr _) (by walk_at "ev") rfl
local macro_rules | `(tactic| walk_at "cl") => `(tactic| with_reducible first | apply Ok_is_string.t | apply Ok_is_string.l)
/-! is_entry -/
inductive Ok_is_entry : List DV → DV → Prop
  | mk {v : D} (h : small v) : Ok_is_entry [.d v] (.d (.bool (isEntry v)))
theorem sc_is_entry : FnScope ["value", "part"] ["value"] (defScope s_is_entry) := ⟨rfl, rfl, rfl, by decide +kernel, rfl, by decide +kernel, by decide +kernel⟩
theorem c_is_entry (T : Txt K mg) (d : ∃ f, DefAt K "is_entry" s_is_entry f) (hm : Left K mg) (c_is_string : FnIs P w K mg base (L2N.CX P w) 1 "is_string" ["value", "least", "most", "allowed"] (spP K Ok_is_string)) : FnIs P w K mg base (L2N.CX P w) 2 "is_entry" ["value"] (spP K Ok_is_entry) := by
  refine def_ok d (fun f e => hm _ _ e) sc_is_entry (fun _ _ _ _ _ _ us hl => match us, hl with | [_], _ => rfl) (fun xs h => ?_) (fun f cdv A outer s H vs E hr => ⟨_, (PSs.nox (pss_cons (ps_if (PW.pt (pw_or (pt_not (kt_truth (K := K) rfl (pe_callB call_isaQ (by rfl) T.b_isinstance (by decide +kernel) (pa_cons (pv 0) (pa_cons (pe_bltn (v := .ty "tuple") (by rfl) T.b_tuple (by decide +kernel) rfl) pa_nil))) (by intro _; rfl))) (pw_or1 (pt_cmpR (op_neQ (by exact hr.units)) (pe_callB (CallR.k (K := K) (r := rLenU) call_lenU rfl) (by rfl) T.b_len (by decide +kernel) (pa_cons (pv 0) pa_nil)) pe_int (nomark _))))) (pss_one (ps_ret pe_bl)) pss_nil)
    (pss_one (ps_ret (pe_callB (CallR.k (K := K) (r := rAll) (cr_all rfl) rfl) (by rfl) T.b_all (by decide +kernel) (pa_cons (pe_lc (own := [("part", 1)]) rfl sc_is_entry.nd  (ki_seq (K := K) rfl (pv 0)) (blkOk_by (N := ["value", "part"]) (sc := defScope s_is_entry) (by decide +kernel)) (fun _ _ _ _ _ => (pg_name (i := 1) sc_is_entry.nd rfl (Or.inl rfl))) (fun _ _ _ _ _ => pts_nil) (fun _ _ _ _ _ => (pe_callF c_is_string (hr.mono (by decide)) passN (pa_cons (pv 1) (pa_cons pe_int (pa_cons (pe_gInt (by rfl) T.g_PART) (pa_cons (pe_gStr (by rfl) T.g_LETTERS) pa_nil))))))) pa_nil)))))), fun M xs Q S h => ?_⟩)
  · rcases h with ⟨_, ⟨⟩⟩ | ⟨_, ⟨⟩⟩ <;> rfl
  · rcases h with ⟨y, hy, k⟩ | ⟨_, ⟨⟩, _⟩
    cases hy with
    | mk h =>
      rename_i v
      have S0 : Sta K M H _ [.d v, .z] := S
      by_cases hv : ∃ a b, v = .tuple [a, b]
      · obtain ⟨a, b, rfl⟩ := hv
        refine q_when S0 (b := false) (by walk_at "go"; rfl) (fun h => by cases h) fun _ H1 s1 S1 => ?_
        refine s_ret S1 ?_ fun v H2 s2 => k v H2 (s1.trans s2)
        walk_at "go"
        · exact smallAll_mem h.2 ‹_›
        show DV.d (.bool ([a, b].all _)) = _
        simp only [List.all_cons, List.all_nil, Bool.and_true]; rfl
      · have e : isEntry v = false := by
          unfold isEntry; split
          · exact absurd ⟨_, _, rfl⟩ hv
          · rfl
        rw [e] at k
        refine q_when S0 (b := true) ?_ (fun _ H1 s1 S1 => s_ret S1 (by walk_at "ev") fun v H2 s2 => k v H2 (s1.trans s2)) (fun h => by cases h)
        cases v with
        | tuple xs =>
          apply EvB.is
          · walk_at "ev"
          · match xs with
            | [] => rfl
            | [_] => rfl
            | [a, b] => exact absurd ⟨a, b, rfl⟩ hv
            | _ :: _ :: _ :: xs => simp [PyData.isTuple]; omega
        | _ => exact eb_orT (x := !PyData.isTuple _) (by walk_at "ev") rfl
local macro_rules | `(tactic| walk_at "cl") => `(tactic| with_reducible apply Ok_is_entry.mk)
/-! is_scheme -/
inductive Ok_is_scheme : List DV → DV → Prop
  | mk {v : D} (h : small v) : Ok_is_scheme [.d v] (.d (.bool (isScheme v)))
theorem sc_is_scheme : FnScope ["value", "one", "sources", "other", "source", "char"] ["value"] (defScope s_is_scheme) := ⟨rfl, rfl, rfl, by decide +kernel, rfl, by decide +kernel, by decide +kernel⟩
theorem c_is_scheme (T : Txt K mg) (d : ∃ f, DefAt K "is_scheme" s_is_scheme f) (hm : Left K mg) (c_is_entry : FnIs P w K mg base (L2N.CX P w) 2 "is_entry" ["value"] (spP K Ok_is_entry)) : FnIs P w K mg base (L2N.CX P w) 3 "is_scheme" ["value"] (spP K Ok_is_scheme) := by
  refine def_ok d (fun f e => hm _ _ e) sc_is_scheme (fun _ _ _ _ _ _ us hl => match us, hl with | [_], _ => rfl) (fun xs h => ?_) (fun f cdv A outer s H vs E hr => ⟨_, (PSs.nox (pss_cons (ps_if (PW.pt (pw_or (pt_not (kt_truth (K := K) rfl (pe_callB call_isaQ (by rfl) T.b_isinstance (by decide +kernel) (pa_cons (pv 0) (pa_cons (pe_bltn (v := .ty "tuple") (by rfl) T.b_tuple (by decide +kernel) rfl) pa_nil))) (by intro _; rfl))) (pw_or (pt_not (pt_chain op_le op_le pe_int (pe_callB (CallR.k (K := K) (r := rLenU) call_lenU rfl) (by rfl) T.b_len (by decide +kernel) (pa_cons (pv 0) pa_nil)) (pe_gInt (by rfl) T.g_ENTRIES))) (pw_or1 (pt_not (kt_truth (K := K) rfl (pe_callB (CallR.k (K := K) (r := rAll) (cr_all rfl) rfl) (by rfl) T.b_all (by decide +kernel) (pa_cons (pe_lc (own := [("one", 1)]) rfl sc_is_scheme.nd  (ki_seq (K := K) rfl (pv 0)) (blkOk_by (N := ["value", "one", "sources", "other", "source", "char"]) (sc := defScope s_is_scheme) (by decide +kernel)) (fun _ _ _ _ _ => (pg_name (i := 1) sc_is_scheme.nd rfl (Or.inl rfl))) (fun _ _ _ _ _ => pts_nil) (fun _ _ _ _ _ => (pe_callF c_is_entry (hr.mono (by decide)) passN (pa_cons (pv 1) pa_nil)))) pa_nil)) (by intro _; rfl))))))) (pss_one (ps_ret pe_bl)) pss_nil)
    (pss_cons (ps_set (i := 2) sc_is_scheme.nd rfl (Or.inr rfl) (pe_lc (own := [("one", 1)]) rfl sc_is_scheme.nd  (ki_seq (K := K) rfl (pv 0)) (blkOk_by (N := ["value", "one", "sources", "other", "source", "char"]) (sc := defScope s_is_scheme) (by decide +kernel)) (fun _ _ _ _ _ => (pg_name (i := 1) sc_is_scheme.nd rfl (Or.inl rfl))) (fun _ _ _ _ _ => pts_nil) (fun _ _ _ _ _ => (k_sub (K := K) (by exact hr.units) rfl (pv 1) pe_int (by intro _ _; rfl)))))
    (pss_cons (ps_if (pt_not (kt_truth (K := K) rfl (pe_callB (CallR.k (K := K) (r := rAll) (cr_all rfl) rfl) (by rfl) T.b_all (by decide +kernel) (pa_cons (pe_lc (own := [("one", 1), ("other", 3)]) rfl sc_is_scheme.nd  (ki_zip (K := K) rfl (by rfl) T.b_zip (pa_cons (pv 2) (pa_cons (pe_slice (SlR.k (K := K) (r := rSlU) sl_U rfl) (pv 2) (po_some pe_int) po_none) pa_nil))) (blkOk_by (N := ["value", "one", "sources", "other", "source", "char"]) (sc := defScope s_is_scheme) (by decide +kernel)) (fun _ _ _ _ _ => (kg_tup (K := K) (n := 2) rfl rfl (pgs_cons (pg_name (i := 1) sc_is_scheme.nd rfl (Or.inl rfl)) (pgs_cons (pg_name (i := 3) sc_is_scheme.nd rfl (Or.inl rfl)) pgs_nil)))) (fun _ _ _ _ _ => pts_nil) (fun _ _ _ _ _ => (pe_cmpR (op_ltU (by exact hr.units)) (pv 1) (pv 3) (nomark _)))) pa_nil)) (by intro _; rfl))) (pss_one (ps_ret pe_bl)) pss_nil)
    (pss_one (ps_ret (pe_callB (CallR.k (K := K) (r := rAll) (cr_all rfl) rfl) (by rfl) T.b_all (by decide +kernel) (pa_cons (pe_lc2 (own := [("source", 4), ("char", 5)]) (vs1 := [5]) rfl sc_is_scheme.nd  (ki_seq (K := K) rfl (pv 2)) (blkOk_by (N := ["value", "one", "sources", "other", "source", "char"]) (sc := defScope s_is_scheme) (by decide +kernel)) (by decide) (fun _ _ _ _ _ => (pg_name (i := 4) sc_is_scheme.nd rfl (Or.inl rfl))) (fun _ _ _ _ _ => pts_nil) (fun _ _ _ _ _ => (ki_seq (K := K) rfl (pv 4))) (fun _ _ _ _ _ => (pg_name (i := 5) sc_is_scheme.nd rfl (Or.inl rfl))) (fun _ _ _ _ _ => pts_nil) (fun _ _ _ _ _ => (pe_cmpR (op_inU (by exact hr.units)) (pv 5) (pv 2) (by rfl)))) pa_nil)))))))), fun M xs Q S h => ?_⟩)
  · rcases h with ⟨_, ⟨⟩⟩ | ⟨_, ⟨⟩⟩ <;> rfl
  · rcases h with ⟨y, hy, k⟩ | ⟨_, ⟨⟩, _⟩
    cases hy with
    | mk h =>
      rename_i v
      have S0 : Sta K M H _ [.d v, .z, .z, .z, .z, .z] := S
      cases v with
      | tuple xs =>
        refine q_when S0 (b := !(decide (1 ≤ (xs.length : Int)) && decide ((xs.length : Int) ≤ 10) && xs.all isEntry)) ?_ (fun hb H1 s1 S1 => ?_) (fun hb H1 s1 S1 => ?_)
        · walk_at "go"
          · exact smallAll_mem h.2 ‹_›
          · exact h.1
          · simp [PyData.isTuple, Bool.not_and]
        · have e : isScheme (.tuple xs) = false := by
            rw [Bool.not_eq_true'] at hb
            rw [isScheme_tup, hb]; rfl
          rw [e] at k
          exact s_ret S1 (by walk_at "ev") fun v H2 s2 => k v H2 (s1.trans s2)
        · rw [Bool.not_eq_false'] at hb
          have e : isScheme (.tuple xs) = (ascending (xs.map srcD) && lettersIn (xs.map srcD)) := by
            rw [isScheme_tup, hb]; rfl
          rw [e] at k
          simp only [Bool.and_eq_true, decide_eq_true_eq] at hb
          obtain ⟨⟨hb1, hb2⟩, hb3⟩ := hb
          obtain ⟨s, rfl⟩ := all_entry hb3
          rw [map_src] at k
          rw [List.length_map] at hb2
          have hs : s.length ≤ 10 := by omega
          have h3 : ∀ p ∈ s, p.1.length ≤ 3 := fun p hp => by
            obtain ⟨q, e, g⟩ := isEntry_iff.mp (List.all_eq_true.mp hb3 _ (List.mem_map_of_mem hp))
            have := encP_inj e
            rw [this]; exact g.2.1
          refine q_asg S1 (x := .d (encW (s.map (·.1)))) ?_ fun σ2 H2 s2 S2 => ?_
          · walk_at "go"
            show DV.d (.list _) = DV.d (.list ((s.map _).map _))
            rw [List.map_map]; rfl
          refine q_when S2 (b := !ascending (s.map (·.1))) ?_ (fun hb H3 s3 S3 => ?_) (fun hb H3 s3 S3 => ?_)
          · walk_at "go"
            rw [cut_tail _ (by rw [List.length_map]; omega), all_asc]
          · rw [Bool.not_eq_true'] at hb
            rw [hb] at k
            exact s_ret S3 (x := .d (.bool false)) (by walk_at "ev") fun v H4 s4 => k v H4 (s1.trans (s2.trans (s3.trans s4)))
          · rw [Bool.not_eq_false'] at hb
            rw [hb] at k
            refine s_ret S3 ?_ fun v H4 s4 => k v H4 (s1.trans (s2.trans (s3.trans s4)))
            walk_at "go"
            · unfold Fits
              rw [List.length_flatMap]
              refine Nat.le_trans (sum_le (b := 3) fun n hn => ?_) ?_
              · obtain ⟨x, hx, rfl⟩ := List.mem_map.mp hn
                rw [List.length_map]
                obtain ⟨p, hp, rfl⟩ := List.mem_map.mp hx
                exact h3 p hp
              · rw [List.length_map, List.length_map]; omega
            · rfl
      | _ =>
        refine q_when S0 (b := true) (eb_orT (x := !PyData.isTuple _) (by walk_at "ev") rfl) (fun _ H1 s1 S1 => s_ret S1 (x := .d (.bool false)) (by walk_at "ev") fun v H2 s2 => k v H2 (s1.trans s2)) (fun h => by cases h)
local macro_rules | `(tactic| walk_at "cl") => `(tactic| with_reducible apply Ok_is_scheme.mk)
/-! need_scheme -/
inductive Ok_need_scheme : List DV → DV → Prop
  | mk {v : D} (h : small v) (h2 : isScheme v = true) : Ok_need_scheme [.d v] (.d .none)
inductive Bad_need_scheme (mg : Str → Option Value) : List DV → Value → Prop
  | mk {v : D} (h : small v) (h2 : isScheme v = false) : Bad_need_scheme mg [.d v] (.ref (xa mg "InvalidScheme"))
theorem sc_need_scheme : FnScope ["value"] ["value"] (defScope s_need_scheme) := ⟨rfl, rfl, rfl, by decide +kernel, rfl, by decide +kernel, by decide +kernel⟩
theorem c_need_scheme (T : Txt K mg) (d : ∃ f, DefAt K "need_scheme" s_need_scheme f) (hm : Left K mg) (c_is_scheme : FnIs P w K mg base (L2N.CX P w) 3 "is_scheme" ["value"] (spP K Ok_is_scheme)) : FnIs P w K mg base (L2N.CX P w) 4 "need_scheme" ["value"] (spX K Ok_need_scheme (Bad_need_scheme mg)) := by
  refine def_ok d (fun f e => hm _ _ e) sc_need_scheme (fun _ _ _ _ _ _ us hl => match us, hl with | [_], _ => rfl) (fun xs h => ?_) (fun f cdv A outer s H vs E hr => ⟨_, (pss_one (ps_if (pt_not (kt_truth (K := K) rfl (pe_callF c_is_scheme (hr.mono (by decide)) (L2N.passes_call (L2N.takes_of rfl rfl rfl rfl) (fun _ _ _ _ h => h)) (pa_cons (pv 0) pa_nil)) (by intro _; rfl))) (pss_one (L2N.ps_raise rfl (L2N.takes_of rfl rfl rfl rfl) (T.x_InvalidScheme.pmk rfl))) pss_nil)), fun M xs Q S h => ?_⟩)
  · rcases h with ⟨_, ⟨⟩⟩ | ⟨_, ⟨⟩⟩ <;> rfl
  · obtain ⟨v, hv, S0, h1, h2⟩ : ∃ v, small v ∧ Sta K M H (L2.start ["value"] vs) [.d v] ∧ (isScheme v = true → ∀ H', Same H H' → Q .non H') ∧ (isScheme v = false → ∀ H', Same H H' → E (.ref (xa mg "InvalidScheme")) none H') := by
      rcases h with ⟨y, hy, k⟩ | ⟨C, hy, k⟩
      · cases hy with
        | mk h h2 => exact ⟨_, h, S, fun _ H' s' => k _ H' s' Dq.non, fun e => by rw [h2] at e; cases e⟩
      · cases hy with
        | mk h h2 => exact ⟨_, h, S, fun e => by rw [h2] at e; (cases e), fun _ H' s' => k H' s'⟩
    refine s_if S0 (b := !isScheme v) ?_ (fun hb H1 s1 S1 => h2 (by simpa using hb) H1 s1) (fun hb H1 s1 S1 => h1 (by simpa using hb) H1 s1)
    walk_at "go"
    · exact hv
    · rfl
local macro_rules | `(tactic| walk_at "cl") => `(tactic| with_reducible apply Ok_need_scheme.mk)
/-! formatted -/
inductive Ok_formatted : List DV → DV → Prop
  | mk {s : Sc} (h : Scheme s) : Ok_formatted [.d (encS s)] (.d (ds (fmtW s)))
theorem sc_formatted : FnScope ["scheme", "source", "target"] ["scheme"] (defScope s_formatted) := ⟨rfl, rfl, rfl, by decide +kernel, rfl, by decide +kernel, by decide +kernel⟩
theorem c_formatted (T : Txt K mg) (d : ∃ f, DefAt K "formatted" s_formatted f) (hm : Left K mg) : FnIs P w K mg base (L2N.CX P w) 1 "formatted" ["scheme"] (spP K Ok_formatted) := by
  refine def_ok d (fun f e => hm _ _ e) sc_formatted (fun _ _ _ _ _ _ us hl => match us, hl with | [_], _ => rfl) (fun xs h => ?_) (fun f cdv A outer s H vs E hr => ⟨_, (PSs.nox (pss_one (ps_ret (k_join (K := K) rfl (pe_strW []) (pe_lc (own := [("source", 1), ("target", 2)]) rfl sc_formatted.nd  (ki_seq (K := K) rfl (pv 0)) (blkOk_by (N := ["scheme", "source", "target"]) (sc := defScope s_formatted) (by decide +kernel)) (fun _ _ _ _ _ => (kg_tup (K := K) (n := 2) rfl rfl (pgs_cons (pg_name (i := 1) sc_formatted.nd rfl (Or.inl rfl)) (pgs_cons (pg_name (i := 2) sc_formatted.nd rfl (Or.inl rfl)) pgs_nil)))) (fun _ _ _ _ _ => pts_nil) (fun _ _ _ _ _ => (pe_op (OpR.k (K := K) (r := rAddU) op_addU rfl) (pe_op (OpR.k (K := K) (r := rAddU) op_addU rfl) (pe_op (OpR.k (K := K) (r := rAddU) op_addU rfl) (pv 1) (pe_strW [32])) (pv 2)) (pe_strW [10])))))))), fun M xs Q S h => ?_⟩)
  · rcases h with ⟨_, ⟨⟩⟩ | ⟨_, ⟨⟩⟩ <;> rfl
  · rcases h with ⟨y, hy, k⟩ | ⟨_, ⟨⟩, _⟩
    cases hy with
    | mk h =>
      rename_i s
      refine s_ret (ρ := [.d (encS s), .z, .z]) S ?_ k
      have hl := fmt_len h
      have h1 := h.src1
      have h2 := h.tgt1
      have h10 := h.ten
      walk_at "go"
      · have := h1 _ ‹_›; simp; omega
      · have := h1 _ ‹_›; have := h2 _ ‹_›; simp; omega
      · have := h1 _ ‹_›; have := h2 _ ‹_›; simp; omega
      · show (fmtW s).length ≤ _; omega
      · rfl
local macro_rules | `(tactic| walk_at "cl") => `(tactic| with_reducible apply Ok_formatted.mk)
/-! format_scheme -/
inductive Ok_format_scheme : List DV → DV → Prop
  | mk {s : Sc} (h : Scheme s) : Ok_format_scheme [.d (encS s)] (.d (ds (fmtW s)))
inductive Bad_format_scheme (mg : Str → Option Value) : List DV → Value → Prop
  | mk {v : D} (h : small v) (h2 : isScheme v = false) : Bad_format_scheme mg [.d v] (.ref (xa mg "InvalidScheme"))
theorem sc_format_scheme : FnScope ["scheme"] ["scheme"] (defScope s_format_scheme) := ⟨rfl, rfl, rfl, by decide +kernel, rfl, by decide +kernel, by decide +kernel⟩
theorem c_format_scheme (T : Txt K mg) (d : ∃ f, DefAt K "format_scheme" s_format_scheme f) (hm : Left K mg) (c_need_scheme : FnIs P w K mg base (L2N.CX P w) 4 "need_scheme" ["value"] (spX K Ok_need_scheme (Bad_need_scheme mg))) (c_formatted : FnIs P w K mg base (L2N.CX P w) 1 "formatted" ["scheme"] (spP K Ok_formatted)) : FnIs P w K mg base (L2N.CX P w) 5 "format_scheme" ["scheme"] (spX K Ok_format_scheme (Bad_format_scheme mg)) := by
  refine def_ok d (fun f e => hm _ _ e) sc_format_scheme (fun _ _ _ _ _ _ us hl => match us, hl with | [_], _ => rfl) (fun xs h => ?_) (fun f cdv A outer s H vs E hr => ⟨_, (pss_cons (ps_expr (pe_callF c_need_scheme (hr.mono (by decide)) (L2N.passes_call (L2N.takes_of rfl rfl rfl rfl) (fun _ _ _ _ h => h)) (pa_cons (pv 0) pa_nil)))
    (pss_one (ps_ret (pe_callF c_formatted (hr.mono (by decide)) (L2N.passes_call (L2N.takes_of rfl rfl rfl rfl) (fun _ _ _ _ h => h)) (pa_cons (pv 0) pa_nil))))), fun M xs Q S h => ?_⟩)
  · rcases h with ⟨_, ⟨⟩⟩ | ⟨_, ⟨⟩⟩ <;> rfl
  · rcases h with ⟨y, hy, k⟩ | ⟨C, hy, k⟩
    · cases hy with
      | mk h =>
        rename_i s
        refine q_drop (ρ := [.d (encS s)]) S (x := .d .none) ?_ fun H1 s1 S1 => s_ret S1 ?_ fun v H2 s2 => k v H2 (s1.trans s2)
        · walk_at "ev"
          · exact h.small
          · exact isScheme_iff.mpr ⟨s, rfl, h⟩
        · walk_at "ev"
          exact h
    · cases hy with
      | mk h h2 =>
        rename_i v
        exact bad_call (ρ := [.d v]) S (by walk_at "ev") (.mk h h2) k
local macro_rules | `(tactic| walk_at "cl") => `(tactic| with_reducible apply Ok_format_scheme.mk)
/-! parse_scheme -/
inductive Ok_parse_scheme : List DV → DV → Prop
  | mk {s : Sc} (h : Scheme s) : Ok_parse_scheme [.d (ds (fmtW s))] (.d (encS s))
inductive Bad_parse_scheme (mg : Str → Option Value) : List DV → Value → Prop
  | n {v : D} (h : v.isStr = false) : Bad_parse_scheme mg [.d v] (.ref (xa mg "InvalidFormat"))
  | t {x : W} (hx : x.length ≤ 100000) (h : ∀ s, Scheme s → fmtW s ≠ x) : Bad_parse_scheme mg [.d (ds x)] (.ref (xa mg "InvalidFormat"))
theorem sc_parse_scheme : FnScope ["text", "scheme", "line"] ["text"] (defScope s_parse_scheme) := ⟨rfl, rfl, rfl, by decide +kernel, rfl, by decide +kernel, by decide +kernel⟩
theorem c_parse_scheme (T : Txt K mg) (d : ∃ f, DefAt K "parse_scheme" s_parse_scheme f) (hm : Left K mg) (c_is_scheme : FnIs P w K mg base (L2N.CX P w) 3 "is_scheme" ["value"] (spP K Ok_is_scheme)) (c_formatted : FnIs P w K mg base (L2N.CX P w) 1 "formatted" ["scheme"] (spP K Ok_formatted)) : FnIs P w K mg base (L2N.CX P w) 4 "parse_scheme" ["text"] (spX K Ok_parse_scheme (Bad_parse_scheme mg)) := by
  refine def_ok d (fun f e => hm _ _ e) sc_parse_scheme (fun _ _ _ _ _ _ us hl => match us, hl with | [_], _ => rfl) (fun xs h => ?_) (fun f cdv A outer s H vs E hr => ⟨_, (pss_cons (ps_if (pt_not (kt_truth (K := K) rfl (pe_callB call_isaQ (by rfl) T.b_isinstance (by decide +kernel) (pa_cons (pv 0) (pa_cons (pe_bltn (v := .ty "str") (by rfl) T.b_str (by decide +kernel) rfl) pa_nil))) (by intro _; rfl))) (pss_one (L2N.ps_raise rfl (L2N.takes_of rfl rfl rfl rfl) (T.x_InvalidFormat.pmk rfl))) pss_nil)
    (pss_cons (ps_set (i := 1) sc_parse_scheme.nd rfl (Or.inl rfl) (pe_callTy (CallR.k (K := K) (r := rTupOf) call_tupleF rfl) (by rfl) T.b_tuple (by decide +kernel) (pa_cons (pe_lc (own := [("line", 2)]) rfl sc_parse_scheme.nd  (ki_seq (K := K) rfl (pe_slice (SlR.k (K := K) (r := rSlU) sl_U rfl) (pe_split (pv 0) (pe_strW [10])) po_none (po_some (pe_un un_neg pe_int)))) (blkOk_by (N := ["text", "scheme", "line"]) (sc := defScope s_parse_scheme) (by decide +kernel)) (fun _ _ _ _ _ => (pg_name (i := 2) sc_parse_scheme.nd rfl (Or.inl rfl))) (fun _ _ _ _ _ => pts_nil) (fun _ _ _ _ _ => (pe_callTy (CallR.k (K := K) (r := rTupOf) call_tupleF rfl) (by rfl) T.b_tuple (by decide +kernel) (pa_cons (pe_split (pv 2) (pe_strW [32])) pa_nil)))) pa_nil)))
    (pss_cons (ps_if (PW.pt (pw_or (pt_not (kt_truth (K := K) rfl (pe_callF c_is_scheme (hr.mono (by decide)) (L2N.passes_call (L2N.takes_of rfl rfl rfl rfl) (fun _ _ _ _ h => h)) (pa_cons (pv 1) pa_nil)) (by intro _; rfl))) (pw_or1 (pt_cmpR (op_neQ (by exact hr.units)) (pe_callF c_formatted (hr.mono (by decide)) (L2N.passes_call (L2N.takes_of rfl rfl rfl rfl) (fun _ _ _ _ h => h)) (pa_cons (pv 1) pa_nil)) (pv 0) (nomark _))))) (pss_one (L2N.ps_raise rfl (L2N.takes_of rfl rfl rfl rfl) (T.x_InvalidFormat.pmk rfl))) pss_nil)
    (pss_one (ps_ret (pv 1)))))), fun M xs Q S h => ?_⟩)
  · rcases h with ⟨_, ⟨⟩⟩ | ⟨_, ⟨⟩⟩ <;> rfl
  · rcases h with ⟨y, hy, k⟩ | ⟨C, hy, k⟩
    · cases hy with
      | mk h =>
        rename_i s
        have hl := fmt_len h
        refine q_when (ρ := [.d (ds (fmtW s)), .z, .z]) S (b := false) (by walk_at "go"; rfl) (fun hb => by cases hb) fun _ H1 s1 S1 => ?_
        refine q_asg S1 (x := .d (rowsD (fmtW s))) ?_ fun σ2 H2 s2 S2 => ?_
        · have h1 := splitC_len 10 (fmtW s)
          walk_at "go"
          · decide
          · decide
          · have := splitC_each 10 (fmtW s) _ ((List.dropLast_sublist _).subset (by rw [← cut_last]; exact ‹_›)); show _ ≤ _; omega
          · rw [cut_last]; show _ ≤ _; rw [List.length_dropLast]; omega
          · rw [cut_last]; rfl
        rw [rows_fmt h] at S2
        refine q_when S2 (b := false) ?_ (fun hb => by cases hb) fun _ H3 s3 S3 => s_ret S3 (by walk_at "ev") fun v H4 s4 => k v H4 (s1.trans (s2.trans (s3.trans s4)))
        · apply EvB.is
          · walk_at "ev"
            · exact h.small
            · exact h
          · rw [isScheme_iff.mpr ⟨s, rfl, h⟩]; simp
    · cases hy with
      | n h =>
        rename_i v
        refine q_when (ρ := [.d v, .z, .z]) S (b := true) (by walk_at "go"; rw [h]; rfl) (fun _ H1 s1 S1 => k H1 s1) (fun hb => by cases hb)
      | t hx h =>
        rename_i x
        refine q_when (ρ := [.d (ds x), .z, .z]) S (b := false) (by walk_at "go"; rfl) (fun hb => by cases hb) fun _ H1 s1 S1 => ?_
        refine q_asg S1 (x := .d (rowsD x)) ?_ fun σ2 H2 s2 S2 => ?_
        · have h1 := splitC_len 10 x
          walk_at "go"
          · decide
          · decide
          · have := splitC_each 10 x _ ((List.dropLast_sublist _).subset (by rw [← cut_last]; exact ‹_›)); show _ ≤ _; omega
          · rw [cut_last]; show _ ≤ _; rw [List.length_dropLast]; omega
          · rw [cut_last]; rfl
        refine q_when S2 (b := true) ?_ (fun _ H3 s3 S3 => k H3 (s1.trans (s2.trans s3))) (fun hb => by cases hb)
        cases e : isScheme (rowsD x) with
        | false =>
          refine eb_orT (x := !isScheme (rowsD x)) (by walk_at "ev"; exact small_rows hx) (by rw [e]; rfl)
        | true =>
          obtain ⟨s, es, hs⟩ := isScheme_iff.mp e
          rw [es]
          apply EvB.is
          · walk_at "ev"
            · exact hs.small
            · exact hs
          · have := h s hs
            simp [this]
local macro_rules | `(tactic| walk_at "cl") => `(tactic| with_reducible apply Ok_parse_scheme.mk)
/-! _law_draw -/
inductive Ok__law_draw (t : Addr) : List DV → (DV → Prop) → Prop
  | mk {ns : List Int} {m : Int} (h : 0 < m) (h2 : m ≤ 1000000) : Ok__law_draw t [.s ns, .v (.ref t), .d (.int m)] (fun x => ∃ r : Nat, x = .d (.int r) ∧ (r : Int) < m)
theorem sc__law_draw : FnScope ["_law_script", "_law_town", "_law_many", "_law_one", "_law_at", "_law_mixed"] ["_law_script", "_law_town", "_law_many"] (defScope s__law_draw) := ⟨rfl, rfl, rfl, by decide +kernel, rfl, by decide +kernel, by decide +kernel⟩
theorem c__law_draw (T : Txt K mg) (d : ∃ f, DefAt K "_law_draw" s__law_draw f) (hm : Left K mg) : FnIs P w K mg base (L2N.CX P w) 1 "_law_draw" ["_law_script", "_law_town", "_law_many"] (spT K Ok__law_draw) := by
  refine def_okT d (fun f e => hm _ _ e) sc__law_draw (fun _ _ _ _ _ _ us hl => match us, hl with | [_, _, _], _ => rfl) (fun t xs Pd h => ?_) (fun f cdv A outer s H vs E hr => ⟨_, (PSs.nox (pss_cons (ps_if (pt_cmpR (op_gtU (by exact hr.units)) (k_sub (K := K) (by exact hr.units) rfl (pv 1) pe_int (by intro _ _; rfl)) pe_int (nomark _)) (pss_cons (ps_set (i := 3) sc__law_draw.nd rfl (Or.inl rfl) (pe_op op_mod (k_sub (K := K) (by exact hr.units) rfl (pv 1) pe_int (by intro _ _; rfl)) (pv 2)))
    (pss_cons (ps_asg (pe_op op_divU (k_sub (K := K) (by exact hr.units) rfl (pv 1) pe_int (by intro _ _; rfl)) (pv 2)) (pg_sub (pv 1) pe_int set_list))
    (pss_one (ps_ret (pv 3))))) pss_nil)
    (pss_cons (ps_set (i := 4) sc__law_draw.nd rfl (Or.inl rfl) (k_sub (K := K) (by exact hr.units) rfl (pv 1) pe_int (by intro _ _; rfl)))
    (pss_cons (ps_augS (pv 1) pe_int get_list pe_int ip_addU set_list)
    (pss_cons (ps_if (pt_cmpR (op_eqSc (by exact hr.units)) (pv 0) (pe_lst pa_nil) (nomark _)) (pss_one (ps_ret (pe_op op_mod (pv 4) (pv 2)))) pss_nil)
    (pss_cons (ps_if (PW.pt (pw_and (pt_cmpR (op_ltU (by exact hr.units)) (pv 4) (pe_callB (CallR.k (K := K) (r := rLenU) call_lenU rfl) (by rfl) T.b_len (by decide +kernel) (pa_cons (pv 0) pa_nil)) (nomark _)) (pw_and1 (pt_cmpR op_ge (k_sub (K := K) (by exact hr.units) rfl (pv 0) (pv 4) (by intro _ _; rfl)) (pe_op op_pow pe_int pe_int) (nomark _))))) (pss_cons (ps_asg (pe_op op_mod (pe_op op_divU (k_sub (K := K) (by exact hr.units) rfl (pv 0) (pv 4) (by intro _ _; rfl)) (pv 2)) (pe_op op_mulU (pe_op op_pow pe_int pe_int) (pe_op op_pow pe_int pe_int))) (pg_sub (pv 1) pe_int set_list))
    (pss_one (ps_ret (pe_op op_mod (k_sub (K := K) (by exact hr.units) rfl (pv 0) (pv 4) (by intro _ _; rfl)) (pv 2))))) pss_nil)
    (pss_cons (ps_set (i := 5) sc__law_draw.nd rfl (Or.inl rfl) (pe_op op_mod (pe_op (OpR.k (K := K) (r := rAddU) op_addU rfl) (pe_op (OpR.k (K := K) (r := rAddU) op_addU rfl) (pe_op op_mulU (k_sub (K := K) (by exact hr.units) rfl (pv 0) (pe_op op_mod (pv 4) (pe_callB (CallR.k (K := K) (r := rLenU) call_lenU rfl) (by rfl) T.b_len (by decide +kernel) (pa_cons (pv 0) pa_nil))) (by intro _ _; rfl)) pe_int) (pe_op op_mulU pe_int (pv 4))) pe_int) pe_int))
    (pss_one (ps_ret (pe_op op_mod (pe_op op_mod (pe_op op_mod (pe_op op_pow (pv 5) pe_int) pe_int) pe_int) (pv 2))))))))))), fun M t xs Pd Q h S k => ?_⟩)
  · cases h <;> rfl
  · cases h with
    | mk h1 h2 =>
      rename_i ns m
      obtain ⟨S0, tm, p, r, hp, hr0, ht⟩ := S
      have S0 : Sta K M H _ [.s ns, .v (.ref t), .d (.int m), .z, .z, .z] := S0
      have fin : ∀ (x : Int) (v : V) (H' : Hp) (p' r' : Int), Gr [t] H H' → H' t = some (.lst [.int p', .int r']) → 0 ≤ p' → 0 ≤ r' → VOk K (hid M H') v (.d (.int (x % m))) → Q v H' := fun x v H' p' r' g e a b o =>
        k v _ H' ⟨(x % m).toNat, by rw [Int.toNat_of_nonneg (Int.emod_nonneg _ (by omega))], by rw [Int.toNat_of_nonneg (Int.emod_nonneg _ (by omega))]; exact Int.emod_lt_of_pos _ h1⟩ g ⟨p', r', a, b, e⟩ o
      have hdiv : ∀ i : Int, CDiv i m := fun i => ⟨h1, by omega⟩
      refine q_when S0 (b := decide (0 < r)) ?_ (fun hb H1 s1 S1 => ?_) (fun hb H1 s1 S1 => ?_)
      · apply EvB.is
        · apply eb_test
          apply ev_op
          · exact ev_town1 rfl ht (by walk_at "ev")
          · walk_at "ev"
          · walk_at "ev"
        · rfl
      · have ht1 := s1 _ _ ht
        refine q_asg S1 (x := .d (.int (r % m))) (ev_op (ev_town1 rfl ht1 (by walk_at "ev")) (by walk_at "ev") (rx_modI h1)) fun σ2 H2 s2 S2 => ?_
        have ht2 := s2 _ _ ht1
        refine q_tput (n := r / m) S2 tm ht2 (ev_op (ev_town1 rfl ht2 (by walk_at "ev")) (by walk_at "ev") (rx_divI (hdiv _))) (by walk_at "ev") fun H3 g3 ht3 S3 => ?_
        refine s_ret S3 (x := .d (.int (r % m))) (by walk_at "ev") fun v H4 s4 o4 => ?_
        exact fin r v H4 p (r / m) (((Same.gr (s1.trans s2)).trans g3).trans (Same.gr s4)) (s4 _ _ ht3) hp (Int.ediv_nonneg hr0 (by omega)) o4
      · have ht1 := s1 _ _ ht
        refine q_asg S1 (x := .d (.int p)) (ev_town0 rfl ht1 (by walk_at "ev")) fun σ2 H2 s2 S2 => ?_
        have ht2 := s2 _ _ ht1
        refine q_tinc (n := 1) S2 tm ht2 (by walk_at "ev") (by walk_at "ev") (fun H Q q => .inl ⟨p, 1, rfl, rfl, q⟩) fun H3 g3 ht3 S3 => ?_
        have g03 : Gr [t] H H3 := (Same.gr (s1.trans s2)).trans g3
        refine q_when S3 (b := decide (ns = [])) (eb_test (ev_op (by walk_at "ev") (by walk_at "ev") rx_eqSc)) (fun hb H4 s4 S4 => ?_) (fun hb H4 s4 S4 => ?_)
        · refine s_ret S4 (x := .d (.int (p % m))) (ev_op (by walk_at "ev") (by walk_at "ev") (rx_modI h1)) fun v H5 s5 o5 => ?_
          exact fin p v H5 (p + 1) r (g03.trans (Same.gr (s4.trans s5))) (s5 _ _ (s4 _ _ ht3)) (by omega) hr0 o5
        · have hne : ns ≠ [] := by simpa using hb
          have hlen : 0 < ns.length := List.length_pos_iff.mpr hne
          have g04 := g03.trans (Same.gr s4)
          have ht4 := s4 _ _ ht3
          have at_ : ∀ i : Nat, i < ns.length → atI ns (i : Int) = some (ns.getD i 0) := fun i hi => atI_nat (by
            rw [List.getD_eq_getElem?_getD, List.getElem?_eq_getElem hi]; rfl)
          obtain ⟨pn, rfl⟩ : ∃ pn : Nat, p = pn := ⟨p.toNat, (Int.toNat_of_nonneg hp).symm⟩
          have big : (0 : Int) < 10 ^ (60 : Int).toNat * 10 ^ (60 : Int).toNat := by decide
          refine q_when S4 (b := decide ((pn : Int) < (ns.length : Int)) && decide ((10 : Int) ^ (18 : Int).toNat ≤ ns.getD pn 0)) ?_ (fun hb H5 s5 S5 => ?_) (fun hb H5 s5 S5 => ?_)
          · by_cases hpl : pn < ns.length
            · have e := at_ pn hpl
              apply EvB.is
              · walk_at "ev"
                exact ⟨by decide, by decide, by decide⟩
              · rfl
            · apply EvB.is
              · exact eb_andF (x := decide ((pn : Int) < (ns.length : Int))) (by walk_at "ev") (decide_eq_false (by omega))
              · rw [decide_eq_false (show ¬ ((pn : Int) < (ns.length : Int)) by omega)]; rfl
          · rw [Bool.and_eq_true, decide_eq_true_iff, decide_eq_true_iff] at hb
            have e := at_ pn (by omega)
            refine q_tput (n := ns.getD pn 0 / m % (10 ^ (60 : Int).toNat * 10 ^ (60 : Int).toNat)) S5 tm (s5 _ _ ht4) ?_ (by walk_at "ev") fun H6 g6 ht6 S6 => ?_
            · walk_at "ev"
              · exact hdiv _
              · exact ⟨by decide, by decide, by decide⟩
              · exact ⟨by decide, by decide, by decide⟩
              · exact .inr (by unfold CMulW; decide +kernel)
              · exact big
            · refine s_ret S6 (x := .d (.int (ns.getD pn 0 % m))) ?_ fun v H7 s7 o7 => ?_
              · walk_at "ev"
                exact h1
              · exact fin _ v H7 (pn + 1) _ ((g04.trans (Same.gr s5)).trans (g6.trans (Same.gr s7))) (s7 _ _ ht6) (by omega) (Int.emod_nonneg _ (by omega)) o7
          · have e1 : (((pn : Int) % (ns.length : Int))) = ((pn % ns.length : Nat) : Int) := by omega
            have e := at_ (pn % ns.length) (Nat.mod_lt _ hlen)
            generalize hv1 : ns.getD (pn % ns.length) 0 = v1 at e
            rw [← e1] at e
            have hm : (0 : Int) < 2147483647 := by decide
            refine q_asg S5 (x := .d (.int ((v1 * 1103515245 + 7919 * pn + 12345) % 2147483647))) ?_ fun σ6 H6 s6 S6 => ?_
            · walk_at "ev"
              · omega
              · exact .inl (.inr ⟨by decide, by decide⟩)
              · exact .inl (.inl ⟨by decide, by decide⟩)
              · exact hm
            · have b0 := Int.emod_nonneg (v1 * 1103515245 + 7919 * pn + 12345) (b := 2147483647) (by decide)
              have b1 := Int.emod_lt_of_pos (v1 * 1103515245 + 7919 * pn + 12345) hm
              generalize (v1 * 1103515245 + 7919 * (pn : Int) + 12345) % 2147483647 = mx at b0 b1 S6
              refine s_ret S6 (x := .d (.int (mx ^ (5 : Int).toNat % 2147483647 % 999983 % m))) ?_ fun v H7 s7 o7 => ?_
              · walk_at "ev"
                · exact ⟨by decide, by decide, by omega⟩
                · exact hm
                · decide
                · exact h1
              · exact fin _ v H7 (pn + 1) r (g04.trans (Same.gr (s5.trans (s6.trans s7)))) (s7 _ _ (s6 _ _ (s5 _ _ ht4))) (by omega) hr0 o7
/-! _law_pick -/
inductive Ok__law_pick (t : Addr) : List DV → (DV → Prop) → Prop
  | l {ns : List Int} {xs : List D} (h : xs ≠ []) (h2 : Fits xs.length) : Ok__law_pick t [.s ns, .v (.ref t), .d (.list xs)] (fun x => ∃ y, y ∈ xs ∧ x = .d y)
  | s {ns : List Int} {l : W} (h : l ≠ []) (h2 : Fits l.length) : Ok__law_pick t [.s ns, .v (.ref t), .d (ds l)] (fun x => ∃ c, c ∈ l ∧ x = .d (ds [c]))
theorem sc__law_pick : FnScope ["_law_script", "_law_town", "_law_some"] ["_law_script", "_law_town", "_law_some"] (defScope s__law_pick) := ⟨rfl, rfl, rfl, by decide +kernel, rfl, by decide +kernel, by decide +kernel⟩
theorem c__law_pick (T : Txt K mg) (d : ∃ f, DefAt K "_law_pick" s__law_pick f) (hm : Left K mg) (c__law_draw : FnIs P w K mg base (L2N.CX P w) 1 "_law_draw" ["_law_script", "_law_town", "_law_many"] (spT K Ok__law_draw)) : FnIs P w K mg base (L2N.CX P w) 2 "_law_pick" ["_law_script", "_law_town", "_law_some"] (spT K Ok__law_pick) := by
  refine def_okT d (fun f e => hm _ _ e) sc__law_pick (fun _ _ _ _ _ _ us hl => match us, hl with | [_, _, _], _ => rfl) (fun t xs Pd h => ?_) (fun f cdv A outer s H vs E hr => ⟨_, (PSs.nox (pss_one (ps_ret (k_sub (K := K) (by exact hr.units) rfl (pv 2) (pe_callF c__law_draw (hr.mono (by decide)) passN (pa_cons (pv 0) (pa_cons (pv 1) (pa_cons (pe_callB (CallR.k (K := K) (r := rLenU) call_lenU rfl) (by rfl) T.b_len (by decide +kernel) (pa_cons (pv 2) pa_nil)) pa_nil)))) (by intro _ _; rfl))))), fun M t xs Pd Q h S k => ?_⟩)
  · cases h <;> rfl
  · cases h with
    | l h h2 =>
      rename_i ns xs
      have hl := List.length_pos_iff.mpr h
      refine st_ret (ρ := [.s ns, .v (.ref t), .d (.list xs)]) S ?_ k
      refine et_sub (x := .d (.list xs)) (by walk_at "ev") (et_call (xs := [.s ns, .v (.ref t), .d (.int xs.length)]) (by walk_at "ev") (.mk (by omega) (by unfold Fits at h2; omega))) ?_
      rintro y ⟨r, rfl, hr⟩
      have hr' : r < xs.length := by omega
      exact ⟨_, ⟨_, List.getElem_mem hr', rfl⟩, rx_ixL (atI_nat (List.getElem?_eq_getElem hr'))⟩
    | s h h2 =>
      rename_i ns l
      have hl := List.length_pos_iff.mpr h
      refine st_ret (ρ := [.s ns, .v (.ref t), .d (ds l)]) S ?_ k
      refine et_sub (x := .d (ds l)) (by walk_at "ev") (et_call (xs := [.s ns, .v (.ref t), .d (.int l.length)]) (by walk_at "ev"; exact h2) (.mk (by omega) (by unfold Fits at h2; omega))) ?_
      rintro y ⟨r, rfl, hr⟩
      have hr' : r < l.length := by omega
      exact ⟨_, ⟨_, List.getElem_mem hr', rfl⟩, rx_ixS (atI_nat (List.getElem?_eq_getElem hr')) h2⟩
/-! _law_string -/
inductive Ok__law_string (t : Addr) : List DV → (DV → Prop) → Prop
  | s {ns : List Int} {l : W} {a b : Int} (h : l ≠ []) (h2 : Fits l.length) (ha : 0 ≤ a) (hab : a ≤ b) (hb : b ≤ 1000) : Ok__law_string t [.s ns, .v (.ref t), .d (ds l), .d (.int a), .d (.int b)] (fun x => ∃ w : W, x = .d (ds w) ∧ (∀ c ∈ w, c ∈ l) ∧ a ≤ (w.length : Int) ∧ (w.length : Int) ≤ b)
theorem sc__law_string : FnScope ["_law_script", "_law_town", "_law_letters_here", "_law_least", "_law_most", "_law_k"] ["_law_script", "_law_town", "_law_letters_here", "_law_least", "_law_most"] (defScope s__law_string) := ⟨rfl, rfl, rfl, by decide +kernel, rfl, by decide +kernel, by decide +kernel⟩
theorem c__law_string (T : Txt K mg) (d : ∃ f, DefAt K "_law_string" s__law_string f) (hm : Left K mg) (c__law_pick : FnIs P w K mg base (L2N.CX P w) 2 "_law_pick" ["_law_script", "_law_town", "_law_some"] (spT K Ok__law_pick)) (c__law_draw : FnIs P w K mg base (L2N.CX P w) 1 "_law_draw" ["_law_script", "_law_town", "_law_many"] (spT K Ok__law_draw)) : FnIs P w K mg base (L2N.CX P w) 3 "_law_string" ["_law_script", "_law_town", "_law_letters_here", "_law_least", "_law_most"] (spT K Ok__law_string) := by
  refine def_okT d (fun f e => hm _ _ e) sc__law_string (fun _ _ _ _ _ _ us hl => match us, hl with | [_, _, _, _, _], _ => rfl) (fun t xs Pd h => ?_) (fun f cdv A outer s H vs E hr => ⟨_, (PSs.nox (pss_one (ps_ret (k_join (K := K) rfl (pe_strW []) (pe_lc (own := [("_law_k", 5)]) rfl sc__law_string.nd  (pi_range1 (by rfl) T.b_range (pa_cons (pe_op (OpR.k (K := K) (r := rAddU) op_addU rfl) (pv 3) (pe_callF c__law_draw (hr.mono (by decide)) passN (pa_cons (pv 0) (pa_cons (pv 1) (pa_cons (pe_op (OpR.k (K := K) (r := rAddU) op_addU rfl) (pe_op op_sub (pv 4) (pv 3)) pe_int) pa_nil))))) pa_nil)) (blkOk_by (N := ["_law_script", "_law_town", "_law_letters_here", "_law_least", "_law_most", "_law_k"]) (sc := defScope s__law_string) (by decide +kernel)) (fun _ _ _ _ _ => (pg_name (i := 5) sc__law_string.nd rfl (Or.inl rfl))) (fun _ _ _ _ _ => pts_nil) (fun _ _ _ _ _ => (pe_callF c__law_pick (hr.mono (by decide)) passN (pa_cons (pv 0) (pa_cons (pv 1) (pa_cons (pv 2) pa_nil)))))))))), fun M t xs Pd Q h S k => ?_⟩)
  · cases h <;> rfl
  · cases h with
    | s h h2 ha hab hb =>
      rename_i ns l a b
      refine st_ret (ρ := [.s ns, .v (.ref t), .d (ds l), .d (.int a), .d (.int b), .z]) S ?_ k
      refine et_m1 (x := sw []) ev_str (et_lc (P := fun x => ∃ cs : W, x = .d (.list (cs.map fun c => ds [c])) ∧ (∀ c ∈ cs, c ∈ l) ∧ a ≤ (cs.length : Int) ∧ (cs.length : Int) ≤ b)
        (Py := fun ys : List Nat => ∃ n, ys = List.range n ∧ a ≤ (n : Int) ∧ (n : Int) ≤ b) (R := fun _ d => ∃ c, c ∈ l ∧ d = ds [c]) (eit_rng (Pn := fun n => a ≤ (n : Int) ∧ (n : Int) ≤ b) ?_) (fun ys x _ _ => g_name) (.mk rfl) ?_ ?_ ?_) ?_
      · refine (eat_one (et_op (P := fun x => ∃ n : Nat, x = .d (.int n) ∧ a ≤ (n : Int) ∧ (n : Int) ≤ b) (et_x (x := .d (.int a)) (by walk_at "ev")) (et_call (xs := [.s ns, .v (.ref t), .d (.int (b - a + 1))]) (by walk_at "ev") (.mk (by omega) (by omega))) ?_)).imp ?_
        · rintro _ _ rfl ⟨r, rfl, hr⟩
          exact ⟨_, ⟨(a + r).toNat, by rw [Int.toNat_of_nonneg (by omega)], by omega, by omega⟩, rx_addI⟩
        · rintro _ ⟨_, rfl, n, rfl, h1, h2⟩
          exact ⟨n, rfl, by omega, h1, h2⟩
      · rintro q ys x _ _
        refine (et_call (xs := [.s ns, .v (.ref t), .d (ds l)]) (by walk_at "ev") (.s h h2)).imp ?_
        rintro _ ⟨c, hc, rfl⟩
        exact ⟨_, rfl, c, hc, rfl⟩
      · rintro ys ⟨n, rfl, h3, h4⟩
        rw [List.length_range]; show n ≤ 1000000; omega
      · rintro ys zs ⟨n, rfl, h3, h4⟩ p
        obtain ⟨cs, rfl, e, m⟩ := paired_chars p
        rw [List.length_range] at e
        exact ⟨cs, rfl, m, by omega, by omega⟩
      · rintro _ ⟨cs, rfl, m, h3, h4⟩
        have e : (cs.map fun c => [c]).flatten = cs := flat_sing cs
        refine ⟨_, ⟨cs, rfl, m, h3, h4⟩, ?_⟩
        have j := rm_join (c := czT K M t H) (K := K) (xs := cs) (g := fun c => [c]) (by rw [e]; omega)
        rw [e] at j
        exact j
/-! _law_scheme -/
inductive Ok__law_scheme (t : Addr) : List DV → (DV → Prop) → Prop
  | mk {ns : List Int} {l g : W} {m : Int} (hl : l ≠ []) (hl2 : ∀ c ∈ l, c ∈ lowers) (hg : g ≠ []) (hg2 : ∀ c ∈ g, c ∈ lowers) (hm : 0 ≤ m) (hz : (l.length : Int) + m ≤ 10) (hz2 : Fits g.length) : Ok__law_scheme t [.s ns, .v (.ref t), .d (ds l), .d (ds g), .d (.int m)] (fun x => ∃ s : Sc, x = .d (encS s) ∧ Made l g s)
theorem sc__law_scheme : FnScope ["_law_script", "_law_town", "_law_letters_here", "_law_targets", "_law_more", "_law_pairs", "_law_one", "_law_k"] ["_law_script", "_law_town", "_law_letters_here", "_law_targets", "_law_more"] (defScope s__law_scheme) := ⟨rfl, rfl, rfl, by decide +kernel, rfl, by decide +kernel, by decide +kernel⟩
theorem c__law_scheme (T : Txt K mg) (d : ∃ f, DefAt K "_law_scheme" s__law_scheme f) (hm : Left K mg) (c__law_draw : FnIs P w K mg base (L2N.CX P w) 1 "_law_draw" ["_law_script", "_law_town", "_law_many"] (spT K Ok__law_draw)) (c__law_string : FnIs P w K mg base (L2N.CX P w) 3 "_law_string" ["_law_script", "_law_town", "_law_letters_here", "_law_least", "_law_most"] (spT K Ok__law_string)) : FnIs P w K mg base (L2N.CX P w) 4 "_law_scheme" ["_law_script", "_law_town", "_law_letters_here", "_law_targets", "_law_more"] (spT K Ok__law_scheme) := by
  refine def_okT d (fun f e => hm _ _ e) sc__law_scheme (fun _ _ _ _ _ _ us hl => match us, hl with | [_, _, _, _, _], _ => rfl) (fun t xs Pd h => ?_) (fun f cdv A outer s H vs E hr => ⟨_, (PSs.nox (pss_cons (ps_set (i := 5) sc__law_scheme.nd rfl (Or.inr rfl) (pe_callTy (CallR.k (K := K) (r := rDictP) (call_dictPT rfl) rfl) (by rfl) T.b_dict (by decide +kernel) (pa_cons (pe_lc (own := [("_law_one", 6)]) rfl sc__law_scheme.nd  (ki_seq (K := K) rfl (pv 2)) (blkOk_by (N := ["_law_script", "_law_town", "_law_letters_here", "_law_targets", "_law_more", "_law_pairs", "_law_one", "_law_k"]) (sc := defScope s__law_scheme) (by decide +kernel)) (fun _ _ _ _ _ => (pg_name (i := 6) sc__law_scheme.nd rfl (Or.inl rfl))) (fun _ _ _ _ _ => pts_nil) (fun _ _ _ _ _ => (pe_tupF (pa_cons (pv 6) (pa_cons (pe_callF c__law_string (hr.mono (by decide)) passN (pa_cons (pv 0) (pa_cons (pv 1) (pa_cons (pv 3) (pa_cons pe_int (pa_cons pe_int pa_nil)))))) pa_nil))))) pa_nil)))
    (pss_cons (ps_for PassesOwn.never rfl (pi_range1 (by rfl) T.b_range (pa_cons (pe_callF c__law_draw (hr.mono (by decide)) passN (pa_cons (pv 0) (pa_cons (pv 1) (pa_cons (pe_op (OpR.k (K := K) (r := rAddU) op_addU rfl) (pv 4) pe_int) pa_nil)))) pa_nil)) (pg_name (i := 7) sc__law_scheme.nd rfl (Or.inl rfl)) (pss_one (ps_dput (units1 (by exact hr.units)) (pv 5) (pe_callF c__law_string (hr.mono (by decide)) passN (pa_cons (pv 0) (pa_cons (pv 1) (pa_cons (pv 2) (pa_cons pe_int (pa_cons pe_int pa_nil)))))) (pe_callF c__law_string (hr.mono (by decide)) passN (pa_cons (pv 0) (pa_cons (pv 1) (pa_cons (pv 3) (pa_cons pe_int (pa_cons pe_int pa_nil)))))) rfl)))
    (pss_one (ps_ret (pe_callTy (CallR.k (K := K) (r := rTupOf) call_tupleF rfl) (by rfl) T.b_tuple (by decide +kernel) (pa_cons (pe_lc (own := [("_law_one", 6)]) rfl sc__law_scheme.nd  (ki_seq (K := K) rfl (pe_callB (call_sortedU rfl (by exact hr.units)) (by rfl) T.b_sorted (by decide +kernel) (pa_cons (pv 5) pa_nil))) (blkOk_by (N := ["_law_script", "_law_town", "_law_letters_here", "_law_targets", "_law_more", "_law_pairs", "_law_one", "_law_k"]) (sc := defScope s__law_scheme) (by decide +kernel)) (fun _ _ _ _ _ => (pg_name (i := 6) sc__law_scheme.nd rfl (Or.inl rfl))) (fun _ _ _ _ _ => pts_nil) (fun _ _ _ _ _ => (pe_tupF (pa_cons (pv 6) (pa_cons (k_sub (K := K) (by exact hr.units) rfl (pv 5) (pv 6) (by intro _ _; rfl)) pa_nil))))) pa_nil))))))), fun M t xs Pd Q h S k => ?_⟩)
  · cases h <;> rfl
  · cases h with
    | mk hl hl2 hg hg2 hm hz hz2 =>
      rename_i ns l g m
      have S0 : StaT K M t H _ [.s ns, .v (.ref t), .d (ds l), .d (ds g), .d (.int m), .z, .z, .z] := S
      have hll : 1 ≤ l.length := List.length_pos_iff.mpr hl
      refine qt_newD (Pk := fun kvs => kvs.map (·.1) = l.map (fun c => [c]) ∧ ∀ q ∈ kvs, ∃ c ∈ l, q.1 = [c] ∧ 1 ≤ q.2.length ∧ q.2.length ≤ 3 ∧ ∀ d ∈ q.2, d ∈ g) S0 ?_ fun p kvs σ1 H1 ⟨ek, hk⟩ hp np g1 S1 m1 => ?_
      · refine (eat_one (et_lc (P := fun x => ∃ kvs : Sc, x = .d (.list (kvs.map encP)) ∧ kvs.map (·.1) = l.map (fun c => [c]) ∧ ∀ q ∈ kvs, ∃ c ∈ l, q.1 = [c] ∧ 1 ≤ q.2.length ∧ q.2.length ≤ 3 ∧ ∀ d ∈ q.2, d ∈ g)
          (Py := fun ys => ys = l) (R := fun c d => ∃ w, d = encP ([c], w) ∧ 1 ≤ w.length ∧ w.length ≤ 3 ∧ ∀ d ∈ w, d ∈ g) ((eit_pure (its := l.map fun n => .d (ds [n])) (by walk_at "ev")).imp fun its e => ⟨l, rfl, e⟩) (fun ys x _ _ => g_name) (.mk rfl) ?_ ?_ ?_)).imp ?_
        · rintro q ys c _ hc
          refine et_tup ((eat_cons (et_x (x := .d (ds [c])) (by walk_at "ev")) (eat_one (et_call (xs := [.s ns, .v (.ref t), .d (ds g), .d (.int 1), .d (.int 3)]) (by walk_at "ev") (.s hg hz2 (by decide) (by decide) (by decide))))).imp ?_)
          rintro _ ⟨_, _, rfl, rfl, _, rfl, w, rfl, h1, h2, h3⟩
          exact ⟨[ds [c], ds w], rfl, by show 2 ≤ 1000; decide, _, rfl, w, rfl, by omega, by omega, h1⟩
        · rintro ys rfl; show _ ≤ _; omega
        · rintro ys zs rfl pr
          obtain ⟨kvs, rfl, e, h⟩ := paired_pairs (P := fun _ w => 1 ≤ w.length ∧ w.length ≤ 3 ∧ ∀ d ∈ w, d ∈ g) pr
          exact ⟨kvs, rfl, e, h⟩
        · rintro _ ⟨_, rfl, kvs, rfl, h⟩
          exact ⟨kvs, rfl, h⟩
      · have hpt : p ≠ t := fun z => by obtain ⟨_, _, _, _, e⟩ := S0.tw; rw [← z, hp] at e; cases e
        obtain ⟨w1, w2, w3⟩ := writeT_tbl (l := l) (g := g) (s := kvs) fun q hq => by
          obtain ⟨c, hc, e, h1, h2, h3⟩ := hk q hq
          rw [e]
          exact ⟨⟨by simp, by simp, fun d hd => by simp at hd; rw [hd]; exact hc⟩, h1, h2, h3⟩
        have hkl : kvs.length = l.length := by have := congrArg List.length ek; simpa using this
        have w4 : ∀ c ∈ l, [c] ∈ (writeT kvs).map (·.1) := fun c hc => by
          have : [c] ∈ kvs.map (·.1) := by rw [ek]; exact List.mem_map_of_mem hc
          obtain ⟨q, hq, e⟩ := List.mem_map.mp this
          rw [← e]; exact w3 q hq
        refine qt_for (α := Nat) (it := fun i => .d (.int (0 + (i : Int)))) (js := [7]) (up := fun i ρ => ρ.set 7 (.d (.int (0 + (i : Int))))) (Py := fun ys => ∃ n, ys = List.range n ∧ (n : Int) < m + 1) S1 (eit_rng (Pn := fun n => (n : Int) < m + 1) ?_) (fun y ρ' => g_name)
          (fun ys i ρ' H' => (∃ y z, ρ' = [.s ns, .v (.ref t), .d (ds l), .d (ds g), .d (.int m), .v (.ref p), y, z]) ∧ TownAt t H' ∧ Gr [p, t] H1 H' ∧ ∃ tb, MK (p :: M) H' p (encT tb) ∧ Tbl l g tb ∧ tb.length ≤ l.length + i ∧ 1 ≤ tb.length ∧ ∀ c ∈ l, [c] ∈ tb.map (·.1)) ?_ ?_ ?_
        · refine (eat_one (et_call (xs := [.s ns, .v (.ref t), .d (.int (m + 1))]) (by walk_at "ev") (.mk (by omega) (by omega)))).imp ?_
          rintro _ ⟨_, rfl, r, rfl, hr⟩
          exact ⟨r, rfl, by omega, hr⟩
        · rintro ys H2 ⟨n, rfl, hn⟩ g2 w
          refine ⟨⟨_, _, rfl⟩, w, g2.mono (fun b hb => by simp at hb; rw [hb]; simp), _, ?_, w1, by omega, ?_, w4⟩
          · obtain ⟨a, vs, e1, e2⟩ := m1
            exact ⟨a, vs, g2 _ _ (by simpa using hpt) e1, e2.mono (Gr.hid g2 fun b hb => by simp at hb; rw [hb]; exact S1.tm)⟩
          · rcases l with _ | ⟨c, l⟩
            · exact absurd rfl hl
            · have := w4 c List.mem_cons_self
              have := List.length_pos_of_mem this
              rwa [List.length_map] at this
        · rintro ys i j σ' ρ' H' H3 Hb ⟨n, rfl, hn⟩ hj sb sm ⟨⟨y, z, rfl⟩, w, gr, tb, mk, tbl, hlen, hpos, hall⟩ s3 S3
          obtain ⟨hi, rfl⟩ := range_get hj
          have St3 : StaT K (p :: M) t H3 σ' _ := ⟨S3, S1.tm, w.same s3⟩
          refine st_dput (Pk := fun w => 2 ≤ w.length ∧ w.length ≤ 3 ∧ ∀ c ∈ w, c ∈ l) (Pv := fun w => 1 ≤ w.length ∧ w.length ≤ 3 ∧ ∀ c ∈ w, c ∈ g) St3 (mk.same s3) hpt (by walk_at "ev") ?_ ?_ (by omega) fun kw vw H4 pk pv g4 S4 mk4 => ?_
          · refine (et_call (xs := [.s ns, .v (.ref t), .d (ds l), .d (.int 2), .d (.int 3)]) (by walk_at "ev") (.s hl (by show _ ≤ _; omega) (by decide) (by decide) (by decide))).imp ?_
            rintro _ ⟨w, rfl, h1, h2, h3⟩
            exact ⟨w, rfl, by omega, by omega, h1⟩
          · refine (et_call (xs := [.s ns, .v (.ref t), .d (ds g), .d (.int 1), .d (.int 3)]) (by walk_at "ev") (.s hg hz2 (by decide) (by decide) (by decide))).imp ?_
            rintro _ ⟨w, rfl, h1, h2, h3⟩
            exact ⟨w, rfl, by omega, by omega, h1⟩
          · have := put_length tb kw vw
            refine ⟨_, sm.trans ((Same.hid s3).trans (Gr.hid g4 fun b hb => by
              simp at hb; rcases hb with rfl | rfl
              · exact List.mem_cons_self
              · exact S1.tm)), S4.sta, ⟨_, _, rfl⟩, S4.tw, (gr.trans (Same.gr s3)).trans g4, _, mk4, tbl.put ⟨by omega, pk.2⟩ pv, by omega, ?_, fun c hc => put_has (hall c hc)⟩
            have := put_new tb kw vw
            have := List.length_pos_of_mem this
            rwa [List.length_map] at this
        · rintro ys σ' ρ' H' ⟨n, rfl, hn⟩ sm S3 ⟨⟨y, z, rfl⟩, w, gr, tb, mk, tbl, hlen, hpos, hall⟩
          rw [List.length_range] at hlen
          have St3 : StaT K (p :: M) t H' σ' _ := ⟨S3, S1.tm, w⟩
          have St4 := unhideK (i := 5) St3 np hpt mk rfl
          have hm := ofT_made tbl hl2 hg2 hpos (by omega) hall
          refine s_ret St4.sta (x := .d (encS (ofT tb))) ?_ fun v H4 s4 o4 => k v _ H4 ⟨_, rfl, hm⟩ ?_ (w.same s4) o4
          · have hget : ∀ w ∈ sortW (tb.map (·.1)), TP.get tb w = some (val tb w) := fun w hw => get_val (get_isSome.mpr ((sortW_perm _).mem_iff.mp hw))
            walk_at "go"
            · omega
            · exact hget _ ‹_›
            · show Fits (sortW _).length
              rw [(sortW_perm _).length_eq, List.length_map]; show _ ≤ _; omega
            · show DV.d (.tuple _) = DV.d (.tuple ((List.map _ _).map _))
              rw [List.map_map]; rfl
          · refine fun b o nb eb => s4 _ _ (gr b o ?_ (g1 b o nb eb))
            simp at nb ⊢
            exact ⟨ne_of_none eb hp, nb⟩
/-! _law_any -/
inductive Ok__law_any (t : Addr) : List DV → (DV → Prop) → Prop
  | mk {ns : List Int} : Ok__law_any t [.s ns, .v (.ref t)] (fun x => ∃ s : Sc, x = .d (encS s) ∧ Any s)
theorem sc__law_any : FnScope ["_law_script", "_law_town", "_law_letters_here"] ["_law_script", "_law_town"] (defScope s__law_any) := ⟨rfl, rfl, rfl, by decide +kernel, rfl, by decide +kernel, by decide +kernel⟩
theorem c__law_any (T : Txt K mg) (d : ∃ f, DefAt K "_law_any" s__law_any f) (hm : Left K mg) (c__law_pick : FnIs P w K mg base (L2N.CX P w) 2 "_law_pick" ["_law_script", "_law_town", "_law_some"] (spT K Ok__law_pick)) (c__law_scheme : FnIs P w K mg base (L2N.CX P w) 4 "_law_scheme" ["_law_script", "_law_town", "_law_letters_here", "_law_targets", "_law_more"] (spT K Ok__law_scheme)) : FnIs P w K mg base (L2N.CX P w) 5 "_law_any" ["_law_script", "_law_town"] (spT K Ok__law_any) := by
  refine def_okT d (fun f e => hm _ _ e) sc__law_any (fun _ _ _ _ _ _ us hl => match us, hl with | [_, _], _ => rfl) (fun t xs Pd h => ?_) (fun f cdv A outer s H vs E hr => ⟨_, (PSs.nox (pss_cons (ps_set (i := 2) sc__law_any.nd rfl (Or.inl rfl) (pe_callF c__law_pick (hr.mono (by decide)) passN (pa_cons (pv 0) (pa_cons (pv 1) (pa_cons (pe_lst (pa_cons (pe_strW [97]) (pa_cons (pe_strW [97, 98]) (pa_cons (pe_strW [97, 98]) (pa_cons (pe_strW [97, 98, 99]) (pa_cons (pe_strW [97, 98, 99]) pa_nil)))))) pa_nil)))))
    (pss_one (ps_ret (pe_callF c__law_scheme (hr.mono (by decide)) passN (pa_cons (pv 0) (pa_cons (pv 1) (pa_cons (pv 2) (pa_cons (pe_callF c__law_pick (hr.mono (by decide)) passN (pa_cons (pv 0) (pa_cons (pv 1) (pa_cons (pe_lst (pa_cons (pe_strW [112]) (pa_cons (pe_strW [112, 113]) (pa_cons (pe_strW [112, 113]) (pa_cons (pe_strW [112, 113, 114]) (pa_cons (pe_strW [97, 98, 99]) pa_nil)))))) pa_nil)))) (pa_cons pe_int pa_nil)))))))))), fun M t xs Pd Q h S k => ?_⟩)
  · cases h <;> rfl
  · cases h with
    | mk =>
      rename_i ns
      have S0 : StaT K M t H _ [.s ns, .v (.ref t), .z] := S
      refine qt_asg (P := fun x => ∃ l : W, x = .d (ds l) ∧ l ∈ anyL) S0 ((et_call (xs := [.s ns, .v (.ref t), .d (.list (([[97], [97, 98], [97, 98], [97, 98, 99], [97, 98, 99]] : List W).map ds))]) (by simp only [List.map_cons, List.map_nil]; walk_at "ev") (.l (by decide) (by show 5 ≤ _; decide))).imp ?_) fun x σ1 H1 px g1 S1 => ?_
      · rintro _ ⟨y, hy, rfl⟩
        obtain ⟨l, hl, rfl⟩ := List.mem_map.mp hy
        have key : ∀ l ∈ ([[97], [97, 98], [97, 98], [97, 98, 99], [97, 98, 99]] : List W), l ∈ anyL := by decide
        exact ⟨l, rfl, key l hl⟩
      · obtain ⟨l, rfl, hl⟩ := px
        refine st_ret S1 (et_callT (eat_cons (et_x (x := .s ns) (by walk_at "ev")) (eat_cons (et_x (x := .v (.ref t)) (by walk_at "ev")) (eat_cons (et_x (x := .d (ds l)) (by walk_at "ev")) (eat_cons (et_call (xs := [.s ns, .v (.ref t), .d (.list (([[112], [112, 113], [112, 113], [112, 113, 114], [97, 98, 99]] : List W).map ds))]) (by simp only [List.map_cons, List.map_nil]; walk_at "ev") (.l (by decide) (by show 5 ≤ _; decide))) (eat_pure (xs := [.d (.int 3)]) (by walk_at "ev")))))) ?_) fun v x H2 px g2 w2 o2 => k v x H2 px (g1.trans g2) w2 o2
        rintro _ ⟨_, _, rfl, rfl, _, _, rfl, rfl, _, _, rfl, rfl, _, _, rfl, ⟨y, hy, rfl⟩, rfl⟩
        obtain ⟨g, hg, rfl⟩ := List.mem_map.mp hy
        have h1 := anyL_ok l hl
        have key : ∀ l ∈ ([[112], [112, 113], [112, 113], [112, 113, 114], [97, 98, 99]] : List W), l ∈ anyG := by decide
        have h2 := anyG_ok g (key g hg)
        exact ⟨_, .mk h1.1 h1.2.1 h2.1 h2.2.1 (by decide) (by have := h1.2.2; omega) (by show _ ≤ _; have := h2.2.2; omega), fun x ⟨s, e, m⟩ => ⟨s, e, l, g, m, hl, key g hg⟩⟩
/-! _law_which -/
theorem sc__law_which : FnScope ["_law_error", "_law_own"] ["_law_error"] (defScope s__law_which) := ⟨rfl, rfl, rfl, by decide +kernel, rfl, by decide +kernel, by decide +kernel⟩
theorem c__law_which (T : Txt K mg) (d : ∃ f, DefAt K "_law_which" s__law_which f) (hm : Left K mg) : FnIsE P w K mg base 1 "_law_which" ["_law_error"] (spW K mg) := by
  refine def_okE d (fun f e => hm _ _ e) sc__law_which (fun _ _ _ _ _ _ us hl => match us, hl with | [_], _ => rfl) (fun a cls d vs H Q E h => by obtain ⟨_, _, _, _, _, _, rfl, _⟩ := h; rfl) (fun f cdv A outer s H vs Q E p cls dd hot zn hr h => ?_)
  obtain ⟨x, j, M, W, rfl, rfl, rfl, lv, k⟩ := h
  have hC := W.c
  obtain ⟨hh, vs, hdat, hvs⟩ := hot
  have hF : ∃ vs, p.2.data = .fields vs := ⟨vs, hdat⟩
  have hP : (p.1, p.2) ∈ [p] := List.mem_singleton.mpr rfl
  refine ⟨_, (PSs.nox (pss_cons (ps_set (i := 1) sc__law_which.nd rfl (Or.inl rfl) (pe_lst (pa_cons (pe_callB (call_isP hC hP zn.zc hF) (by rfl) T.b_isinstance (by decide +kernel) (pa_cons (pv 0) (pa_cons (pe_cls T.x_InvalidScheme) pa_nil))) (pa_cons (pe_callB (call_isP hC hP zn.zc hF) (by rfl) T.b_isinstance (by decide +kernel) (pa_cons (pv 0) (pa_cons (pe_cls T.x_InvalidWord) pa_nil))) pa_nil))))
    (pss_cons (ps_expr (k_bm (K := K) rfl PySem.F.plainAttrs_list PySem.F.slot_list_extend PySem.F.type_list_extend mt_extend (pv 1) (pa_cons (pe_lst (pa_cons (pe_callB (call_isP hC hP zn.zc hF) (by rfl) T.b_isinstance (by decide +kernel) (pa_cons (pv 0) (pa_cons (pe_cls T.x_InvalidText) pa_nil))) pa_nil)) pa_nil)))
    (pss_cons (ps_expr (k_bm (K := K) rfl PySem.F.plainAttrs_list PySem.F.slot_list_extend PySem.F.type_list_extend mt_extend (pv 1) (pa_cons (pe_lst (pa_cons (pe_callB (call_isP hC hP zn.zc hF) (by rfl) T.b_isinstance (by decide +kernel) (pa_cons (pv 0) (pa_cons (pe_cls T.x_Unreadable) pa_nil))) (pa_cons (pe_callB (call_isP hC hP zn.zc hF) (by rfl) T.b_isinstance (by decide +kernel) (pa_cons (pv 0) (pa_cons (pe_cls T.x_NoMarking) pa_nil))) pa_nil))) pa_nil)))
    (pss_cons (ps_expr (k_bm (K := K) rfl PySem.F.plainAttrs_list PySem.F.slot_list_extend PySem.F.type_list_extend mt_extend (pv 1) (pa_cons (pe_lst (pa_cons (pe_callB (call_isP hC hP zn.zc hF) (by rfl) T.b_isinstance (by decide +kernel) (pa_cons (pv 0) (pa_cons (pe_cls T.x_InvalidChain) pa_nil))) pa_nil)) pa_nil)))
    (pss_cons (ps_expr (k_bm (K := K) rfl PySem.F.plainAttrs_list PySem.F.slot_list_append PySem.F.type_list_append mt_append (pv 1) (pa_cons (pe_callB (call_isP hC hP zn.zc hF) (by rfl) T.b_isinstance (by decide +kernel) (pa_cons (pv 0) (pa_cons (pe_cls T.x_InvalidFormat) pa_nil))) pa_nil)))
    (pss_cons (ps_if (PW.pt (pw_or (pt_cmpR (op_neQ (by exact roomH_u4 hr)) (k_bm (K := K) rfl PySem.F.plainAttrs_list PySem.F.slot_list_count PySem.F.type_list_count (mt_countD (by exact roomH_u hr)) (pv 1) (pa_cons pe_bl pa_nil)) pe_int (nomark _)) (pw_or1 (pt_not (kt_truth (K := K) rfl (pe_callB (call_isP hC hP zn.zc hF) (by rfl) T.b_isinstance (by decide +kernel) (pa_cons (pv 0) (pa_cons (pe_bltn (v := .ty "ValueError") (by rfl) T.b_ValueError (by decide +kernel) rfl) pa_nil))) (by intro _; rfl)))))) (pss_one (ps_ret (pe_tupF (pa_cons (pe_strW [114, 97, 105, 115, 101, 100]) (pa_cons (pe_un un_neg pe_int) pa_nil))))) pss_nil)
    (pss_one (ps_ret (pe_tupF (pa_cons (pe_strW [114, 97, 105, 115, 101, 100]) (pa_cons (k_bm (K := K) rfl PySem.F.plainAttrs_list PySem.F.slot_list_index PySem.F.type_list_index (MtR.k (K := K) (r := rIndexD) (mt_indexD (by exact roomH_u hr)) rfl) (pv 1) (pa_cons pe_bl pa_nil)) pa_nil)))))))))))), ?_⟩
  have S0 : Sta K M H (L2.start ["_law_error", "_law_own"] [.ref p.1]) [.v (.ref p.1), .z] := ⟨lv, ⟨rfl, trivial, trivial⟩⟩
  have g := W.i
  refine q_newL (xs := [.bool (decide ((0 : Int) = j)), .bool (decide ((1 : Int) = j))]) S0 ?_ (by simp) fun q σ1 H1 hp np sh1 s1 S1 m1 => ?_
  · walk_at "ev"
    · exact rc_isE (K := K) (mg := mg) (g "InvalidScheme" 0 (by simp [whichAll]))
    · exact rc_isE (K := K) (mg := mg) (g "InvalidWord" 1 (by simp [whichAll]))
  refine q_ext S1 m1 (by walk_at "ev") (ys := [.bool (decide ((2 : Int) = j))]) ?_ (by simp) fun H2 sh2 g2 S2 m2 => ?_
  · walk_at "ev"
    exact rc_isE (K := K) (mg := mg) (g "InvalidText" 2 (by simp [whichAll]))
  refine q_ext S2 m2 (by walk_at "ev") (ys := [.bool (decide ((3 : Int) = j)), .bool (decide ((4 : Int) = j))]) ?_ (by simp) fun H3 sh3 g3 S3 m3 => ?_
  · walk_at "ev"
    · exact rc_isE (K := K) (mg := mg) (g "Unreadable" 3 (by simp [whichAll]))
    · exact rc_isE (K := K) (mg := mg) (g "NoMarking" 4 (by simp [whichAll]))
  refine q_ext S3 m3 (by walk_at "ev") (ys := [.bool (decide ((5 : Int) = j))]) ?_ (by simp) fun H4 sh4 g4 S4 m4 => ?_
  · walk_at "ev"
    exact rc_isE (K := K) (mg := mg) (g "InvalidChain" 5 (by simp [whichAll]))
  refine q_app S4 m4 (by walk_at "ev") (y := .bool (decide ((6 : Int) = j))) ?_ (by simp) fun H5 sh5 g5 S5 m5 => ?_
  · walk_at "ev"
    exact rc_isE (K := K) (mg := mg) (g "InvalidFormat" 6 (by simp [whichAll]))
  have S6 := unhideL (i := 1) S5 np m5 rfl
  have sH : Same H H5 := (gr_new hp s1 (g2.trans (g3.trans (g4.trans g5))))
  have key : ∀ bs : List D, bs = [.bool (decide ((0 : Int) = j)), .bool (decide ((1 : Int) = j)), .bool (decide ((2 : Int) = j)), .bool (decide ((3 : Int) = j)), .bool (decide ((4 : Int) = j)), .bool (decide ((5 : Int) = j)), .bool (decide ((6 : Int) = j))] →
      (bs.countP fun z => PyData.eqv z (.bool true)) = 1 ∧ PyData.canLayAll0 bs = true ∧ PyData.depthAll bs = 0 ∧ SeqAt.shaped (.list bs) = true ∧ ∃ n : Nat, (n : Int) = j ∧ (∃ z, bs[n]? = some z ∧ PyData.eqv z (.bool true) = true) ∧ ∀ m z', m < n → bs[m]? = some z' → PyData.eqv z' (.bool true) = false := by
    rintro bs rfl
    rcases W.j0 with rfl | rfl | rfl | rfl | rfl | rfl | rfl
    all_goals refine ⟨by decide, by decide, by decide, by decide, ?_⟩
    · exact ⟨0, rfl, ⟨_, rfl, by decide⟩, fun m z' h => by omega⟩
    · refine ⟨1, rfl, ⟨_, rfl, by decide⟩, fun m z' h e => ?_⟩
      match m, h with
      | 0, _ => cases e; decide
    · refine ⟨2, rfl, ⟨_, rfl, by decide⟩, fun m z' h e => ?_⟩
      match m, h with
      | 0, _ => cases e; decide
      | 1, _ => cases e; decide
    · refine ⟨3, rfl, ⟨_, rfl, by decide⟩, fun m z' h e => ?_⟩
      match m, h with
      | 0, _ => cases e; decide
      | 1, _ => cases e; decide
      | 2, _ => cases e; decide
    · refine ⟨4, rfl, ⟨_, rfl, by decide⟩, fun m z' h e => ?_⟩
      match m, h with
      | 0, _ => cases e; decide
      | 1, _ => cases e; decide
      | 2, _ => cases e; decide
      | 3, _ => cases e; decide
    · refine ⟨5, rfl, ⟨_, rfl, by decide⟩, fun m z' h e => ?_⟩
      match m, h with
      | 0, _ => cases e; decide
      | 1, _ => cases e; decide
      | 2, _ => cases e; decide
      | 3, _ => cases e; decide
      | 4, _ => cases e; decide
    · refine ⟨6, rfl, ⟨_, rfl, by decide⟩, fun m z' h e => ?_⟩
      match m, h with
      | 0, _ => cases e; decide
      | 1, _ => cases e; decide
      | 2, _ => cases e; decide
      | 3, _ => cases e; decide
      | 4, _ => cases e; decide
      | 5, _ => cases e; decide
  generalize hbs : (([PyData.bool (decide ((0 : Int) = j)), .bool (decide ((1 : Int) = j))] ++ [.bool (decide ((2 : Int) = j))] ++ [.bool (decide ((3 : Int) = j)), .bool (decide ((4 : Int) = j))] ++ [.bool (decide ((5 : Int) = j))] ++ [.bool (decide ((6 : Int) = j))]) : List D) = bs at S6
  obtain ⟨k1, k2, k3, k4, n, k5, ⟨z, k6, k7⟩, k8⟩ := key bs hbs.symm
  refine q_when S6 (b := false) ?_ (fun hb => by cases hb) fun _ H7 s7 S7 => ?_
  · apply EvB.is
    · apply eb_or
      · apply eb_test
        refine ev_op (x := .d (.int (bs.countP fun z => PyData.eqv z (.bool true) : Nat))) (ev_bm (by walk_at "ev") (fun H1 v => ty_list) (by walk_at "ev") (rm_count k2 rfl (by rw [k3]; decide))) (by walk_at "ev") rx_neI
      · intro _
        apply eb_not
        apply eb_truB
        refine ev_cb (xs := [.v (.ref p.1), .v (.ty "ValueError")]) ?_ (rc_isV W.val)
        walk_at "ev"
    · rw [k1]; rfl
  refine s_ret S7 (x := .d (raisedD j)) ?_ fun v H8 s8 o8 => k v H8 (sH.trans (s7.trans s8)) o8
  rw [← k5]
  refine ev_tupD (xs := [ds raisedW, .int n]) (ead_cons (by walk_at "ev") (ead_cons ?_ ead_nil)) (by show 2 ≤ 1000; decide)
  exact ev_bm (x := .d (.list bs)) (by walk_at "ev") (fun H1 v => ty_list) (ys := [.d (.bool true)]) (by walk_at "ev") (rm_index k4 rfl k6 k7 k8)
/-! _law_lines -/
inductive Ok__law_lines : List DV → DV → Prop
  | mk {s : Sc} (h : Scheme s) : Ok__law_lines [.d (encS s)] (.d (ds (fmtW s)))
theorem sc__law_lines : FnScope ["_law_scheme_here", "_law_entry"] ["_law_scheme_here"] (defScope s__law_lines) := ⟨rfl, rfl, rfl, by decide +kernel, rfl, by decide +kernel, by decide +kernel⟩
theorem c__law_lines (T : Txt K mg) (d : ∃ f, DefAt K "_law_lines" s__law_lines f) (hm : Left K mg) : FnIs P w K mg base (L2N.CX P w) 1 "_law_lines" ["_law_scheme_here"] (spP K Ok__law_lines) := by
  refine def_ok d (fun f e => hm _ _ e) sc__law_lines (fun _ _ _ _ _ _ us hl => match us, hl with | [_], _ => rfl) (fun xs h => ?_) (fun f cdv A outer s H vs E hr => ⟨_, (PSs.nox (pss_one (ps_ret (k_join (K := K) rfl (pe_strW []) (pe_lc (own := [("_law_entry", 1)]) rfl sc__law_lines.nd  (ki_seq (K := K) rfl (pv 0)) (blkOk_by (N := ["_law_scheme_here", "_law_entry"]) (sc := defScope s__law_lines) (by decide +kernel)) (fun _ _ _ _ _ => (pg_name (i := 1) sc__law_lines.nd rfl (Or.inl rfl))) (fun _ _ _ _ _ => pts_nil) (fun _ _ _ _ _ => (pe_op (OpR.k (K := K) (r := rAddU) op_addU rfl) (k_join (K := K) rfl (pe_strW [32]) (pv 1)) (pe_strW [10])))))))), fun M xs Q S h => ?_⟩)
  · rcases h with ⟨_, ⟨⟩⟩ | ⟨_, ⟨⟩⟩ <;> rfl
  · rcases h with ⟨y, hy, k⟩ | ⟨_, ⟨⟩, _⟩
    cases hy with
    | mk h =>
      rename_i s
      refine s_ret (ρ := [.d (encS s), .z]) S ?_ k
      have hl := fmt_len h
      have h1 := h.src1
      have h2 := h.tgt1
      have h10 := h.ten
      walk_at "go"
      · have := h1 _ ‹_›; have := h2 _ ‹_›; omega
      · have := h1 _ ‹_›; have := h2 _ ‹_›; simp; omega
      · show (fmtW s).length ≤ _; omega
      · rfl
local macro_rules | `(tactic| walk_at "cl") => `(tactic| with_reducible apply Ok__law_lines.mk)
/-! _law_ask -/
inductive Ok__law_ask : List DV → DV → Prop
  | f {s : Sc} (h : Scheme s) : Ok__law_ask [.d (.int 0), .d (encS s)] (.d (ds (fmtW s)))
  | fb {v : D} (h : small v) (h2 : isScheme v = false) : Ok__law_ask [.d (.int 0), .d v] (.d (raisedD 0))
  | p {s : Sc} (h : Scheme s) : Ok__law_ask [.d (.int 1), .d (ds (fmtW s))] (.d (encS s))
  | pn {v : D} (h : v.isStr = false) : Ok__law_ask [.d (.int 1), .d v] (.d (raisedD 6))
  | pt {x : W} (hx : x.length ≤ 100000) (h : ∀ s, Scheme s → fmtW s ≠ x) : Ok__law_ask [.d (.int 1), .d (ds x)] (.d (raisedD 6))
theorem sc__law_ask : FnScope ["_law_what", "_law_value", "_law_error"] ["_law_what", "_law_value"] (defScope s__law_ask) := ⟨rfl, rfl, rfl, by decide +kernel, rfl, by decide +kernel, by decide +kernel⟩
theorem c__law_ask (T : Txt K mg) (d : ∃ f, DefAt K "_law_ask" s__law_ask f) (hm : Left K mg) (c__law_which : FnIsE P w K mg base 1 "_law_which" ["_law_error"] (spW K mg)) (c_format_scheme : FnIs P w K mg base (L2N.CX P w) 5 "format_scheme" ["scheme"] (spX K Ok_format_scheme (Bad_format_scheme mg))) (c_parse_scheme : FnIs P w K mg base (L2N.CX P w) 4 "parse_scheme" ["text"] (spX K Ok_parse_scheme (Bad_parse_scheme mg))) : FnIs P w K mg base (L2N.CX P w) 6 "_law_ask" ["_law_what", "_law_value"] (spP K Ok__law_ask) := by
  refine def_ok d (fun f e => hm _ _ e) sc__law_ask (fun _ _ _ _ _ _ us hl => match us, hl with | [_, _], _ => rfl) (fun xs h => ?_) (fun f cdv A outer s H vs E hr => ⟨_, (PSs.nox (pss_one (L2N.ps_try_as (i := 2) (Wout := fun _ _ _ _ => False) rfl rfl sc__law_ask.nd rfl rfl ⟨rfl, by decide, Or.inl T.x_TranslitError.g⟩ takesN (fun W pn xe tk _ => (pss_one (ps_ret (pe_callVT (k := 5) tk (hr.mono (by decide)) (k_sub (K := K) (by exact hr.units) rfl (pe_lst (pa_cons (pe_fnN c_format_scheme rfl (by rfl) (by decide)) (pa_cons (pe_fnN c_parse_scheme rfl (by rfl) (by decide)) pa_nil))) (pv 0) (by intro _ _; rfl)) (fnV_cons (fnV_of c_format_scheme (by decide) rfl rfl rfl rfl rfl) (fnV_cons (fnV_of c_parse_scheme (by decide) rfl rfl rfl rfl rfl) fnV_nil)) (pa_cons (pv 1) pa_nil) (by rfl) (by rfl) (by rfl))))) (fun a oe cls d pn hz hf => (pss_one (ps_ret (pe_callEI c__law_which (hr.mono (by decide)) hz hf (pa_cons (pv 2) pa_nil)))))))), fun M xs Q S h => ?_⟩)
  · rcases h with ⟨_, ⟨⟩⟩ | ⟨_, ⟨⟩⟩ <;> rfl
  · rcases h with ⟨y, hy, k⟩ | ⟨_, ⟨⟩, _⟩
    have pick : ∀ {c : Cz} {j : Int} {v : D} {z : DV} {f : Str}, atI [V.ref (xa mg "format_scheme"), .ref (xa mg "parse_scheme")] j = some (.ref (xa mg f)) → EvX c (tSub K (tLst (tCons (tC (.ref (xa mg "format_scheme"))) (tCons (tC (.ref (xa mg "parse_scheme"))) tNil))) (tVar 0)) [.d (.int j), .d v, z] (.v (.ref (xa mg f))) := fun e =>
      ev_pick (vs := [.ref (xa mg "format_scheme"), .ref (xa mg "parse_scheme")]) (by simp only [List.map_cons, List.map_nil]; walk_at "ev") (by walk_at "ev") e (by show 2 ≤ 1000; decide)
    cases hy with
    | f h => exact s_ret S (ev_callV (pick rfl) (List.mem_cons_self) (by walk_at "ev") (.mk h)) k
    | fb h h2 =>
      refine bad_callV S (pick rfl) (List.mem_cons_self) (by walk_at "ev") (.mk h h2) fun H1 s1 S1 => ?_
      refine as_yes (T.x_InvalidScheme.exm T.x_TranslitError T.s_InvalidScheme_TranslitError) fun a ha => ?_
      exact s_ret (S1.set (i := 2) (x := .v (.ref a)) rfl) (ev_which T.w_InvalidScheme (by walk_at "ev")) fun v H2 s2 => k v H2 (s1.trans s2)
    | p h => exact s_ret S (ev_callV (pick rfl) (List.mem_cons_of_mem _ List.mem_cons_self) (by walk_at "ev") (.mk h)) k
    | pn h =>
      refine bad_callV S (pick rfl) (List.mem_cons_of_mem _ List.mem_cons_self) (by walk_at "ev") (.n h) fun H1 s1 S1 => ?_
      refine as_yes (T.x_InvalidFormat.exm T.x_TranslitError T.s_InvalidFormat_TranslitError) fun a ha => ?_
      exact s_ret (S1.set (i := 2) (x := .v (.ref a)) rfl) (ev_which T.w_InvalidFormat (by walk_at "ev")) fun v H2 s2 => k v H2 (s1.trans s2)
    | pt hx h =>
      refine bad_callV S (pick rfl) (List.mem_cons_of_mem _ List.mem_cons_self) (by walk_at "ev") (.t hx h) fun H1 s1 S1 => ?_
      refine as_yes (T.x_InvalidFormat.exm T.x_TranslitError T.s_InvalidFormat_TranslitError) fun a ha => ?_
      exact s_ret (S1.set (i := 2) (x := .v (.ref a)) rfl) (ev_which T.w_InvalidFormat (by walk_at "ev")) fun v H2 s2 => k v H2 (s1.trans s2)
end
local macro_rules | `(tactic| walk_at "cl") => `(tactic| with_reducible first | apply Ok_is_string.t | apply Ok_is_string.l)
local macro_rules | `(tactic| walk_at "cl") => `(tactic| with_reducible apply Ok_is_entry.mk)
local macro_rules | `(tactic| walk_at "cl") => `(tactic| with_reducible apply Ok_is_scheme.mk)
local macro_rules | `(tactic| walk_at "cl") => `(tactic| with_reducible apply Ok_need_scheme.mk)
local macro_rules | `(tactic| walk_at "cl") => `(tactic| with_reducible apply Ok_formatted.mk)
local macro_rules | `(tactic| walk_at "cl") => `(tactic| with_reducible apply Ok_format_scheme.mk)
local macro_rules | `(tactic| walk_at "cl") => `(tactic| with_reducible apply Ok_parse_scheme.mk)
local macro_rules | `(tactic| walk_at "cl") => `(tactic| with_reducible apply Ok__law_lines.mk)
/-! law -/
theorem sc_law : FnScope ["_law_script", "_law_town", "_law_scheme_here", "_law_text", "_law_k", "_law_at", "_law_char", "_law_bent", "_law_told", "_law_bad", "_law_one", "_law_eleven", "_law_letter"] ["_law_script"] (defScope s_law) := ⟨rfl, rfl, rfl, by decide +kernel, rfl, by decide +kernel, by decide +kernel⟩
theorem c_law {P : Program} {w : World} {K : PySem.W.Frag} {mg : Str → Option Value} {fa : Addr} (T : Txt K mg) (d : ∃ f, DefAt K "law" s_law f) (hm : Left K mg) (hfa : mg "law" = some (.ref fa)) (c__law_any : ∀ (base : Heap), FnIs P w K mg base (L2N.CX P w) 5 "_law_any" ["_law_script", "_law_town"] (spT K Ok__law_any)) (c__law_lines : ∀ (base : Heap), FnIs P w K mg base (L2N.CX P w) 1 "_law_lines" ["_law_scheme_here"] (spP K Ok__law_lines)) (c__law_draw : ∀ (base : Heap), FnIs P w K mg base (L2N.CX P w) 1 "_law_draw" ["_law_script", "_law_town", "_law_many"] (spT K Ok__law_draw)) (c__law_pick : ∀ (base : Heap), FnIs P w K mg base (L2N.CX P w) 2 "_law_pick" ["_law_script", "_law_town", "_law_some"] (spT K Ok__law_pick)) (c__law_ask : ∀ (base : Heap), FnIs P w K mg base (L2N.CX P w) 6 "_law_ask" ["_law_what", "_law_value"] (spP K Ok__law_ask)) : ∃ fd : FuncData, (∀ (s : Shared) (u : Value), BindsTo s fd ⟨[u], []⟩ [("_law_script", u)]) ∧ ∀ base : Heap, K.In base → base.Ns mainGlobals mg → FnOk P w K mg base (L2N.CX P w) 100 fa fd ["_law_script"] (spLaw K) := by
  refine law_ok d hm hfa sc_law (fun _ _ _ _ _ _ _ _ => .of_eq rfl) fun base hK hN f cdv A outer s H vs E hr => ?_
  replace c__law_any := c__law_any base
  replace c__law_lines := c__law_lines base
  replace c__law_draw := c__law_draw base
  replace c__law_pick := c__law_pick base
  replace c__law_ask := c__law_ask base
  refine ⟨_, (PSs.nox (pss_cons (ps_set (i := 1) sc_law.nd rfl (Or.inl rfl) (pe_lst (pa_cons pe_int (pa_cons pe_int pa_nil))))
    (pss_cons (ps_set (i := 2) sc_law.nd rfl (Or.inl rfl) (pe_callF c__law_any (hr.mono (by decide)) passN (pa_cons (pv 0) (pa_cons (pv 1) pa_nil))))
    (pss_cons (ps_set (i := 3) sc_law.nd rfl (Or.inl rfl) (pe_callF c__law_lines (hr.mono (by decide)) passN (pa_cons (pv 2) pa_nil)))
    (pss_cons (ps_if (PW.pt (pw_or (pt_cmpR (op_neQ (by exact hr.units)) (pe_callF c__law_ask (hr.mono (by decide)) passN (pa_cons pe_int (pa_cons (pv 2) pa_nil))) (pv 3) (nomark _)) (pw_or1 (pt_cmpR (op_neQ (by exact hr.units)) (pe_callF c__law_ask (hr.mono (by decide)) passN (pa_cons pe_int (pa_cons (pv 3) pa_nil))) (pv 2) (nomark _))))) (pss_one (ps_ret pe_bl)) pss_nil)
    (pss_cons (ps_for PassesOwn.never rfl (pi_range1 (by rfl) T.b_range (pa_cons pe_int pa_nil)) (pg_name (i := 4) sc_law.nd rfl (Or.inl rfl)) (pss_cons (ps_set (i := 5) sc_law.nd rfl (Or.inl rfl) (pe_callF c__law_draw (hr.mono (by decide)) passN (pa_cons (pv 0) (pa_cons (pv 1) (pa_cons (pe_op (OpR.k (K := K) (r := rAddU) op_addU rfl) (pe_callB (CallR.k (K := K) (r := rLenU) call_lenU rfl) (by rfl) T.b_len (by decide +kernel) (pa_cons (pv 3) pa_nil)) pe_int) pa_nil)))))
    (pss_cons (ps_set (i := 6) sc_law.nd rfl (Or.inl rfl) (pe_callF c__law_pick (hr.mono (by decide)) passN (pa_cons (pv 0) (pa_cons (pv 1) (pa_cons (pe_lst (pa_cons (pe_strW []) (pa_cons (pe_strW [97]) (pa_cons (pe_strW [98]) (pa_cons (pe_strW [112]) (pa_cons (pe_strW [32]) (pa_cons (pe_strW [10]) (pa_cons (pe_strW [65]) (pa_cons (pe_strW [49]) (pa_cons (pe_strW [9]) pa_nil)))))))))) pa_nil)))))
    (pss_cons (ps_set (i := 7) sc_law.nd rfl (Or.inl rfl) (pe_op (OpR.k (K := K) (r := rAddU) op_addU rfl) (pe_op (OpR.k (K := K) (r := rAddU) op_addU rfl) (pe_slice (SlR.k (K := K) (r := rSlU) sl_U rfl) (pv 3) po_none (po_some (pv 5))) (pv 6)) (pe_slice (SlR.k (K := K) (r := rSlU) sl_U rfl) (pv 3) (po_some (pe_op (OpR.k (K := K) (r := rAddU) op_addU rfl) (pv 5) (pe_callF c__law_draw (hr.mono (by decide)) passN (pa_cons (pv 0) (pa_cons (pv 1) (pa_cons pe_int pa_nil)))))) po_none)))
    (pss_cons (ps_set (i := 8) sc_law.nd rfl (Or.inl rfl) (pe_callF c__law_ask (hr.mono (by decide)) passN (pa_cons pe_int (pa_cons (pv 7) pa_nil))))
    (pss_one (ps_if (PW.pt (pw_or (PW.pt (pw_and (pt_cmpR (op_neQ (by exact hr.units)) (pv 8) (pe_tupF (pa_cons (pe_strW [114, 97, 105, 115, 101, 100]) (pa_cons pe_int pa_nil))) (nomark _)) (pw_and1 (pt_cmpR (op_neQ (by exact hr.units)) (pe_callF c__law_lines (hr.mono (by decide)) passN (pa_cons (pv 8) pa_nil)) (pv 7) (nomark _))))) (pw_or1 (PW.pt (pw_and (pt_cmpR (op_eqQ (by exact hr.units)) (pv 7) (pv 3) (nomark _)) (pw_and1 (pt_cmpR (op_neQ (by exact hr.units)) (pv 8) (pv 2) (nomark _)))))))) (pss_one (ps_ret pe_bl)) pss_nil)))))))
    (pss_cons (ps_set (i := 9) sc_law.nd rfl (Or.inl rfl) (pe_lst (pa_cons pe_non (pa_cons (pe_strW []) (pa_cons (pe_strW [10]) (pa_cons (pe_slice (SlR.k (K := K) (r := rSlU) sl_U rfl) (pv 3) po_none (po_some (pe_un un_neg pe_int))) (pa_cons (pe_op (OpR.k (K := K) (r := rAddU) op_addU rfl) (pv 3) (pe_strW [10])) (pa_cons (pe_op (OpR.k (K := K) (r := rAddU) op_addU rfl) (pe_strW [32]) (pv 3)) (pa_cons (pe_strW [97, 32, 32, 112, 10]) (pa_cons (pe_strW [97, 32, 112, 32, 10]) (pa_cons (pe_strW [97, 10]) (pa_cons (pe_strW [97, 32, 112, 32, 113, 10]) pa_nil))))))))))))
    (pss_cons (ps_expr (k_bm (K := K) rfl PySem.F.plainAttrs_list PySem.F.slot_list_extend PySem.F.type_list_extend mt_extend (pv 9) (pa_cons (pe_lst (pa_cons (pe_strW [65, 32, 112, 10]) (pa_cons (pe_strW [97, 32, 80, 10]) (pa_cons (pe_strW [98, 32, 112, 10, 97, 32, 112, 10]) (pa_cons (pe_strW [97, 98, 32, 112, 10]) pa_nil))))) pa_nil)))
    (pss_cons (ps_expr (k_bm (K := K) rfl PySem.F.plainAttrs_list PySem.F.slot_list_extend PySem.F.type_list_extend mt_extend (pv 9) (pa_cons (pe_lst (pa_cons (pe_strW [97, 32, 112, 10, 97, 32, 113, 10]) (pa_cons (pe_strW [97, 32, 112, 112, 112, 112, 10]) (pa_cons (pe_strW [97, 32, 112, 10, 97, 97, 97, 97, 32, 113, 10]) (pa_cons pe_int (pa_cons (pe_lst (pa_cons (pv 3) pa_nil)) (pa_cons (pe_tupF (pa_cons (pe_strW [97, 32, 112, 10]) pa_nil)) (pa_cons (pe_strW [32, 112, 10]) pa_nil)))))))) pa_nil)))
    (pss_cons (ps_expr (k_bm (K := K) rfl PySem.F.plainAttrs_list PySem.F.slot_list_extend PySem.F.type_list_extend mt_extend (pv 9) (pa_cons (pe_lst (pa_cons (pe_strW [97, 32, 10]) (pa_cons (pe_strW [97, 32, 112]) pa_nil))) pa_nil)))
    (pss_cons (ps_if (pt_cmpR (op_neQ (by exact hr.units)) (pe_lc (own := [("_law_one", 10)]) rfl sc_law.nd  (ki_seq (K := K) rfl (pv 9)) (blkOk_by (N := ["_law_script", "_law_town", "_law_scheme_here", "_law_text", "_law_k", "_law_at", "_law_char", "_law_bent", "_law_told", "_law_bad", "_law_one", "_law_eleven", "_law_letter"]) (sc := defScope s_law) (by decide +kernel)) (fun _ _ _ _ _ => (pg_name (i := 10) sc_law.nd rfl (Or.inl rfl))) (fun _ _ _ _ _ => pts_nil) (fun _ _ _ _ _ => (pe_callF c__law_ask (hr.mono (by decide)) passN (pa_cons pe_int (pa_cons (pv 10) pa_nil))))) (pe_op op_mulU (pe_lst (pa_cons (pe_tupF (pa_cons (pe_strW [114, 97, 105, 115, 101, 100]) (pa_cons pe_int pa_nil))) pa_nil)) (pe_callB (CallR.k (K := K) (r := rLenU) call_lenU rfl) (by rfl) T.b_len (by decide +kernel) (pa_cons (pv 9) pa_nil))) (nomark _)) (pss_one (ps_ret pe_bl)) pss_nil)
    (pss_cons (ps_set (i := 11) sc_law.nd rfl (Or.inl rfl) (k_join (K := K) rfl (pe_strW []) (pe_lc (own := [("_law_letter", 12)]) rfl sc_law.nd  (ki_seq (K := K) rfl (pe_strW [97, 98, 99, 100, 101, 102, 103, 104, 105, 106, 107])) (blkOk_by (N := ["_law_script", "_law_town", "_law_scheme_here", "_law_text", "_law_k", "_law_at", "_law_char", "_law_bent", "_law_told", "_law_bad", "_law_one", "_law_eleven", "_law_letter"]) (sc := defScope s_law) (by decide +kernel)) (fun _ _ _ _ _ => (pg_name (i := 12) sc_law.nd rfl (Or.inl rfl))) (fun _ _ _ _ _ => pts_nil) (fun _ _ _ _ _ => (pe_op (OpR.k (K := K) (r := rAddU) op_addU rfl) (pv 12) (pe_strW [32, 112, 10]))))))
    (pss_cons (ps_if (PW.pt (pw_or (pt_cmpR (op_neQ (by exact hr.units)) (pe_callF c__law_ask (hr.mono (by decide)) passN (pa_cons pe_int (pa_cons (pv 11) pa_nil))) (pe_tupF (pa_cons (pe_strW [114, 97, 105, 115, 101, 100]) (pa_cons pe_int pa_nil))) (nomark _)) (pw_or1 (pt_cmpR (op_neQ (by exact hr.units)) (pe_callB (CallR.k (K := K) (r := rLenU) call_lenU rfl) (by rfl) T.b_len (by decide +kernel) (pa_cons (pe_callF c__law_ask (hr.mono (by decide)) passN (pa_cons pe_int (pa_cons (pe_slice (SlR.k (K := K) (r := rSlU) sl_U rfl) (pv 11) po_none (po_some (pe_un un_neg pe_int))) pa_nil))) pa_nil)) pe_int (nomark _))))) (pss_one (ps_ret pe_bl)) pss_nil)
    (pss_one (ps_ret (pe_cmpR (op_eqQ (by exact hr.units)) (pe_lc (own := [("_law_one", 10)]) rfl sc_law.nd  (ki_seq (K := K) rfl (pe_tupF (pa_cons pe_non (pa_cons (pe_tupF pa_nil) (pa_cons (pe_lst (pa_cons (pv 2) pa_nil)) (pa_cons (pe_strW [97, 32, 112, 10]) (pa_cons (k_sub (K := K) (by exact hr.units) rfl (pv 2) pe_int (by intro _ _; rfl)) pa_nil))))))) (blkOk_by (N := ["_law_script", "_law_town", "_law_scheme_here", "_law_text", "_law_k", "_law_at", "_law_char", "_law_bent", "_law_told", "_law_bad", "_law_one", "_law_eleven", "_law_letter"]) (sc := defScope s_law) (by decide +kernel)) (fun _ _ _ _ _ => (pg_name (i := 10) sc_law.nd rfl (Or.inl rfl))) (fun _ _ _ _ _ => pts_nil) (fun _ _ _ _ _ => (pe_callF c__law_ask (hr.mono (by decide)) passN (pa_cons pe_int (pa_cons (pv 10) pa_nil))))) (pe_op op_mulU (pe_lst (pa_cons (pe_tupF (pa_cons (pe_strW [114, 97, 105, 115, 101, 100]) (pa_cons pe_int pa_nil))) pa_nil)) pe_int) (nomark _))))))))))))))))), fun ns Q hz S k => ?_⟩
  ·
    have S0 : Sta K [] H _ [.s ns, .z, .z, .z, .z, .z, .z, .z, .z, .z, .z, .z, .z] := S
    refine q_newL (xs := [.int 0, .int 0]) S0 (ead_cons (by walk_at "ev") (ead_cons (by walk_at "ev") ead_nil)) (by decide) fun t σ1 H1 hp np sh1 s1 S1 m1 => ?_
    have L1 : StaL K [t] t H1 H1 σ1 _ := ⟨⟨S1, List.mem_singleton.mpr rfl, m1.town⟩, Same.refl _⟩
    refine l_draw L1 (et_call (xs := [.s ns, .v (.ref t)]) (by walk_at "ev") .mk) fun x σ2 H2 px L2 => ?_
    obtain ⟨s, rfl, l, g, hm, hl, hg⟩ := px
    have hs := hm.ok
    have hfl := fmt_len hs
    refine l_asg L2 (x := .d (ds (fmtW s))) (by walk_at "ev"; exact hs) fun σ3 H3 L3 => ?_
    refine l_skip L3 ?_ fun H4 L4 => ?_
    · exact eb_or2 (eb_same (x := ds (fmtW s)) (ev_call (by walk_at "ev") (.f hs)) (by walk_at "ev") rfl rfl (by show 0 ≤ 60; decide)) (eb_same (x := encS s) (ev_call (by walk_at "ev") (.p hs)) (by walk_at "ev") rfl (plain_S _) (depth_S _))
    refine l_for (ys := List.range 8) (it := fun i => .d (.int (0 + (i : Int)))) (js := [4]) (up := fun i ρ => ρ.set 4 (.d (.int (0 + (i : Int))))) L4 (ei_rng1 (n := 8) (ea_cons (EvX.is ev_int rfl) ea_nil) (by decide)) (fun y hy ρ' => g_name)
      (fun ρ => ∃ a b c d e, ρ = [.s ns, .v (.ref t), .d (encS s), .d (ds (fmtW s)), a, b, c, d, e, .z, .z, .z, .z]) ⟨_, _, _, _, _, rfl⟩ ?_ ?_
    · rintro y σ' ρ' H' Hc hy ⟨a, b, c, d, e, rfl⟩ L5
      refine l_draw L5 (et_call (xs := [.s ns, .v (.ref t), .d (.int ((fmtW s).length + 1))]) (by walk_at "ev"; show _ ≤ _; omega) (.mk (by omega) (by omega))) fun x σ6 H6 px L6 => ?_
      obtain ⟨at_, rfl, hat⟩ := px
      refine l_draw (P := fun x => ∃ w : W, x = .d (ds w) ∧ w.length ≤ 1) L6 ((et_call (xs := [.s ns, .v (.ref t), .d (.list (([[], [97], [98], [112], [32], [10], [65], [49], [9]] : List W).map ds))]) (by simp only [List.map_cons, List.map_nil]; walk_at "ev") (.l (by decide) (by show 9 ≤ _; decide))).imp ?_) fun x σ7 H7 px L7 => ?_
      · rintro _ ⟨y, hy, rfl⟩
        obtain ⟨l, hl, rfl⟩ := List.mem_map.mp hy
        have key : ∀ l ∈ ([[], [97], [98], [112], [32], [10], [65], [49], [9]] : List W), l.length ≤ 1 := by decide
        exact ⟨l, rfl, key l hl⟩
      obtain ⟨ch, rfl, hch⟩ := px
      refine l_draw (P := fun x => ∃ w : W, x = .d (ds w) ∧ w.length ≤ 200) L7 ?_ fun x σ8 H8 px L8 => ?_
      · refine et_op (Pa := fun x => ∃ w : W, x = .d (ds w) ∧ w.length ≤ 100) (Pb := fun x => ∃ w : W, x = .d (ds w) ∧ w.length ≤ 100) ?_ ?_ ?_
        · refine et_pure (x := .d (ds ((fmtW s).take at_ ++ ch))) ?_ ⟨_, rfl, by rw [List.length_append, List.length_take]; omega⟩
          walk_at "go"
          · show _ ≤ _; omega
          · rw [cut_take _ _ (by omega), List.length_take]; omega
          · rw [cut_take _ _ (by omega)]; rfl
        · refine et_slS (l := fmtW s) (Plo := fun _ => True) (Phi := fun _ => True) (by walk_at "ev") (eot_some (Po := fun _ => True) ((et_op (Pa := fun x => x = .d (.int at_)) (P := fun x => ∃ i : Int, x = .d (.int i)) (et_x (by walk_at "ev")) (et_call (xs := [.s ns, .v (.ref t), .d (.int 2)]) (by walk_at "ev") (.mk (by decide) (by decide))) ?_).imp ?_)) ?_ (by show _ ≤ _; omega) ?_
          · rintro _ _ rfl ⟨r, rfl, hr⟩
            exact ⟨_, ⟨_, rfl⟩, rx_addI⟩
          · rintro _ ⟨i, rfl⟩; exact ⟨i, rfl, trivial⟩
          · exact fun n H1 σ a w Q q => eot_pure eo_none n H1 σ a w Q fun o H2 e g w => q o H2 trivial g w
          · intro lo hi _ _
            refine ⟨_, rfl, ?_⟩
            unfold cutL
            rw [List.length_take, List.length_drop]; omega
        · rintro _ _ ⟨u, rfl, hu⟩ ⟨v, rfl, hv⟩
          exact ⟨_, ⟨_, rfl, by rw [List.length_append]; omega⟩, rx_addS (by omega)⟩
      obtain ⟨bent, rfl, hbent⟩ := px
      by_cases hb : ∃ s', Scheme s' ∧ fmtW s' = bent
      · obtain ⟨s', hs', rfl⟩ := hb
        refine l_asg L8 (x := .d (encS s')) (ev_call (by walk_at "ev") (.p hs')) fun σ9 H9 L9 => ?_
        refine l_skipS L9 ?_ fun H10 L10 => LS.mk L10 ⟨_, _, _, _, _, rfl⟩
        refine eb_or2 ?_ ?_
        · apply EvB.is
          · refine eb_and (a := true) (b := false) ?_ fun _ => eb_same (x := ds (fmtW s')) (by walk_at "ev"; exact hs') (by walk_at "ev") rfl rfl (by show 0 ≤ 60; decide)
            apply EvB.is
            · apply eb_test
              refine ev_op (y := .d (raisedD 6)) (by walk_at "ev") ?_ (rx_ne (Nat.le_trans (Nat.min_le_left _ _) (depth_S _)))
              walk_at "ev"
            · rw [eqv_S_raised hs']; rfl
          · rfl
        · by_cases he : s' = s
          · subst he
            exact EvB.is (eb_and (a := decide (fmtW s' = fmtW s')) (b := false) (by walk_at "ev") fun _ => eb_same (x := encS s') (by walk_at "ev") (by walk_at "ev") rfl (plain_S _) (depth_S _)) (by simp)
          · exact eb_andF (x := decide (fmtW s' = fmtW s)) (by walk_at "ev") (decide_eq_false fun e => he (fmt_inj hs' hs e))
      · refine l_asg L8 (x := .d (raisedD 6)) (ev_call (by walk_at "ev") (.pt (by omega) fun s' hs' e => hb ⟨s', hs', e⟩)) fun σ9 H9 L9 => ?_
        refine l_skipS L9 ?_ fun H10 L10 => LS.mk L10 ⟨_, _, _, _, _, rfl⟩
        refine eb_or2 ?_ ?_
        · exact eb_andF (x := false) (eb_same (x := raisedD 6) (by walk_at "ev") (by walk_at "ev") rfl rfl (by decide)) rfl
        · exact eb_andF (x := decide (bent = fmtW s)) (by walk_at "ev") (decide_eq_false fun e => hb ⟨s, hs, e.symm⟩)
    · rintro σ' ρ' H' ⟨a, b, c, d, e, rfl⟩ L5
      have S5 := L5.sta
      obtain ⟨rr, cc, ef, hc⟩ := fmt_end hs
      refine q_newL (xs := [.none, ds [], ds [10], ds (cutL (fmtW s) none (some (-1))), ds (fmtW s ++ [10]), ds ([32] ++ fmtW s), ds [97, 32, 32, 112, 10], ds [97, 32, 112, 32, 10], ds [97, 10], ds [97, 32, 112, 32, 113, 10]]) S5 ?_ (by show 10 ≤ 1000; decide) fun p σ6 H6 hp6 np6 sh6 s6 S6 m6 => ?_
      · walk_at "ev"
        all_goals (show _ ≤ _; first | omega | (simp; omega))
      refine q_ext S6 m6 (by walk_at "ev") (ys := [ds [65, 32, 112, 10], ds [97, 32, 80, 10], ds [98, 32, 112, 10, 97, 32, 112, 10], ds [97, 98, 32, 112, 10]]) (by walk_at "ev") (by simp) fun H7 sh7 g7 S7 m7 => ?_
      refine q_ext S7 m7 (by walk_at "ev") (ys := [ds [97, 32, 112, 10, 97, 32, 113, 10], ds [97, 32, 112, 112, 112, 112, 10], ds [97, 32, 112, 10, 97, 97, 97, 97, 32, 113, 10], .int 5, .list [ds (fmtW s)], .tuple [ds [97, 32, 112, 10]], ds [32, 112, 10]]) (by walk_at "ev") (by simp) fun H8 sh8 g8 S8 m8 => ?_
      refine q_ext S8 m8 (by walk_at "ev") (ys := [ds [97, 32, 10], ds [97, 32, 112]]) (by walk_at "ev") (by simp) fun H9 sh9 g9 S9 m9 => ?_
      have S10 := unhideL (i := 9) S9 np6 m9 rfl
      generalize hbad : (([.none, ds [], ds [10], ds (cutL (fmtW s) none (some (-1))), ds (fmtW s ++ [10]), ds ([32] ++ fmtW s), ds [97, 32, 32, 112, 10], ds [97, 32, 112, 32, 10], ds [97, 10], ds [97, 32, 112, 32, 113, 10]] ++ [ds [65, 32, 112, 10], ds [97, 32, 80, 10], ds [98, 32, 112, 10, 97, 32, 112, 10], ds [97, 98, 32, 112, 10]] ++ [ds [97, 32, 112, 10, 97, 32, 113, 10], ds [97, 32, 112, 112, 112, 112, 10], ds [97, 32, 112, 10, 97, 97, 97, 97, 32, 113, 10], .int 5, .list [ds (fmtW s)], .tuple [ds [97, 32, 112, 10]], ds [32, 112, 10]] ++ [ds [97, 32, 10], ds [97, 32, 112]]) : List D) = bad at S10
      have hb : ∀ x ∈ bad, Ok__law_ask [.d (.int 1), .d x] (.d (raisedD 6)) := by
        rw [← hbad]
        have nf : ∀ {w : W}, isScheme (rowsD w) = false → w.length ≤ 100000 → Ok__law_ask [.d (.int 1), .d (ds w)] (.d (raisedD 6)) := fun h hl => .pt hl (not_fmt h)
        simp only [List.cons_append, List.nil_append, List.forall_mem_cons, List.forall_mem_nil, and_true]
        refine ⟨.pn rfl, nf (by decide +kernel) (by decide), nf (by decide +kernel) (by decide), .pt ?_ ?_, .pt ?_ (bad_more hs), .pt ?_ bad_front, ?_⟩
        · rw [cut_last, List.length_dropLast]; omega
        · rw [cut_last]; exact bad_cut hs
        · simp; omega
        · simp; omega
        refine ⟨nf (by decide +kernel) (by decide), nf (by decide +kernel) (by decide), nf (by decide +kernel) (by decide), nf (by decide +kernel) (by decide), ?_⟩
        refine ⟨nf (by decide +kernel) (by decide), nf (by decide +kernel) (by decide), nf (by decide +kernel) (by decide), nf (by decide +kernel) (by decide), ?_⟩
        refine ⟨nf (by decide +kernel) (by decide), nf (by decide +kernel) (by decide), nf (by decide +kernel) (by decide), .pn rfl, .pn rfl, .pn rfl, nf (by decide +kernel) (by decide), ?_⟩
        exact ⟨nf (by decide +kernel) (by decide), nf (by decide +kernel) (by decide), by simp⟩
      have hbl : bad.length = 23 := by rw [← hbad]; rfl
      have rep : ∀ (n : Nat) (l : List D) (d : D), l.length = n → (l.map fun _ => d) = (List.replicate n [d]).flatten := fun n => by
        induction n with
        | zero => intro l d h; rw [List.length_eq_zero_iff.mp h]; rfl
        | succ n ih =>
          intro l d h
          cases l with
          | nil => simp at h
          | cons a l => rw [List.map_cons, ih l d (by simpa using h)]; rfl
      have plainR : ∀ (n : Nat) (j : Int), (PyData.list (List.replicate n [raisedD j]).flatten).plain = true ∧ PyData.depthAll (List.replicate n [raisedD j]).flatten ≤ 1 := fun n j => by
        induction n with
        | zero => exact ⟨rfl, Nat.zero_le _⟩
        | succ n ih => exact ⟨by show ((raisedD j).plain && PyData.plainAll (List.replicate n [raisedD j]).flatten) = true; rw [show PyData.plainAll (List.replicate n [raisedD j]).flatten = true from ih.1]; rfl, by
            show max (raisedD j).depth (PyData.depthAll (List.replicate n [raisedD j]).flatten) ≤ 1
            have : (raisedD j).depth = 1 := rfl
            have := ih.2
            omega⟩
      refine q_when S10 (b := false) ?_ (fun hb => by cases hb) fun _ H11 s11 S11 => ?_
      · refine eb_same (x := .list (bad.map fun _ => raisedD 6)) ?_ (y := .list (List.replicate 23 [raisedD 6]).flatten) ?_ (by rw [rep 23 bad _ hbl]) (by rw [rep 23 bad _ hbl]; exact (plainR 23 6).1) (by rw [rep 23 bad _ hbl]; have := (plainR 23 6).2; show PyData.depthAll _ + 1 ≤ 60; omega)
        · refine ev_lcA (its := bad) (it := fun x => .d x) (ei_seq (x := .d (.list bad)) (by walk_at "ev") .l) (fun x _ => g_name) (.mk rfl) ?_ (by show _ ≤ _; omega)
          intro q x hx
          exact ev_call (by walk_at "ev") (hb x hx)
        · refine ev_op (x := .d (.list [raisedD 6])) (y := .d (.int (23 : Nat))) (by walk_at "ev") ?_ (rx_mulL (by decide) (by decide))
          exact EvX.is (ev_cb (xs := [.d (.list bad)]) (by walk_at "ev") rc_lenL) (by rw [hbl])
      have e11 : (([97, 98, 99, 100, 101, 102, 103, 104, 105, 106, 107] : W).map fun c => [c] ++ [32, 112, 10]).flatten = [97, 32, 112, 10, 98, 32, 112, 10, 99, 32, 112, 10, 100, 32, 112, 10, 101, 32, 112, 10, 102, 32, 112, 10, 103, 32, 112, 10, 104, 32, 112, 10, 105, 32, 112, 10, 106, 32, 112, 10, 107, 32, 112, 10] := by decide
      refine q_asg S11 (x := .d (ds [97, 32, 112, 10, 98, 32, 112, 10, 99, 32, 112, 10, 100, 32, 112, 10, 101, 32, 112, 10, 102, 32, 112, 10, 103, 32, 112, 10, 104, 32, 112, 10, 105, 32, 112, 10, 106, 32, 112, 10, 107, 32, 112, 10])) ?_ fun σ12 H12 s12 S12 => ?_
      · rw [← e11]
        walk_at "go"
        · simp
        · decide
        · rfl
      have hten : Scheme ([([97], [112]), ([98], [112]), ([99], [112]), ([100], [112]), ([101], [112]), ([102], [112]), ([103], [112]), ([104], [112]), ([105], [112]), ([106], [112])] : Sc) := by
        have h : isScheme (encS ([([97], [112]), ([98], [112]), ([99], [112]), ([100], [112]), ([101], [112]), ([102], [112]), ([103], [112]), ([104], [112]), ([105], [112]), ([106], [112])] : Sc)) = true := by decide +kernel
        obtain ⟨s', e, hs'⟩ := isScheme_iff.mp h
        rw [encS_inj e]; exact hs'
      refine q_when S12 (b := false) ?_ (fun hb => by cases hb) fun _ H13 s13 S13 => ?_
      · refine eb_or2 (eb_same (x := raisedD 6) (ev_call (by walk_at "ev") (.pt (by decide) (not_fmt (by decide +kernel)))) (by walk_at "ev") rfl rfl (by decide)) ?_
        apply EvB.is
        · apply eb_test
          refine ev_op (x := .d (.int 10)) (y := .d (.int 10)) (EvX.is (ev_cb (xs := [.d (encS ([([97], [112]), ([98], [112]), ([99], [112]), ([100], [112]), ([101], [112]), ([102], [112]), ([103], [112]), ([104], [112]), ([105], [112]), ([106], [112])] : Sc))]) ?_ rc_lenT) rfl) (by walk_at "ev") rx_neI
          refine ea_cons (ev_call (xs := [.d (.int 1), .d (ds (fmtW ([([97], [112]), ([98], [112]), ([99], [112]), ([100], [112]), ([101], [112]), ([102], [112]), ([103], [112]), ([104], [112]), ([105], [112]), ([106], [112])] : Sc)))]) ?_ (.p hten)) ea_nil
          refine ea_cons (by walk_at "ev") (ea_cons ?_ ea_nil)
          refine EvX.is (by walk_at "ev"; decide) ?_
          rw [show (-(4 : Int)) = -((4 : Nat) : Int) from rfl, cut_init _ 4 (by decide)]
          rfl
        · rfl
      have hb0 : ∀ x ∈ [.none, .tuple [], .list [encS s], ds [97, 32, 112, 10], encP (s.head (by intro e; have := hs.one; rw [e] at this; simp at this))], Ok__law_ask [.d (.int 0), .d x] (.d (raisedD 0)) := by
        simp only [List.forall_mem_cons, List.forall_mem_nil, and_true]
        refine ⟨.fb trivial rfl, .fb (by refine ⟨?_, trivial⟩; decide) (by decide), .fb ⟨by show 1 ≤ _; decide, hs.small, trivial⟩ rfl, .fb (small_ds (by decide)) rfl, .fb ?_ rfl, by simp⟩
        have hm : s.head (by intro e; have := hs.one; rw [e] at this; simp at this) ∈ s := List.head_mem _
        have h1 := hs.src1 _ hm
        have h2 := hs.tgt1 _ hm
        exact ⟨by show 2 ≤ _; decide, small_ds (by omega), small_ds (by omega), trivial⟩
      refine s_ret S13 (x := .d (.bool true)) ?_ fun v H2 s2 o2 => by
        obtain rfl := dq_bool o2
        exact k _
      generalize hl0 : ([.none, .tuple [], .list [encS s], ds [97, 32, 112, 10], encP (s.head (by intro e; have := hs.one; rw [e] at this; simp at this))] : List D) = l0 at hb0
      have hll : l0.length = 5 := by rw [← hl0]; rfl
      refine ev_op (x := .d (.list (l0.map fun _ => raisedD 0))) (y := .d (.list (List.replicate 5 [raisedD 0]).flatten)) ?_ (ev_op (x := .d (.list [raisedD 0])) (y := .d (.int (5 : Nat))) (by walk_at "ev") (EvX.is ev_int rfl) (rx_mulL (by decide) (by decide))) ?_
      · refine ev_lcA (its := l0) (it := fun x => .d x) (ei_seq (x := .d (.tuple l0)) ?_ .t) (fun x _ => g_name) (.mk rfl) ?_ (by show _ ≤ _; omega)
        · rw [← hl0]
          walk_at "ev"
          rw [atI_zero, List.head?_map, List.head?_eq_some_head]; rfl
        · intro q x hx
          exact ev_call (by walk_at "ev") (hb0 x hx)
      · rw [rep 5 l0 _ hll]
        exact rx_eqS (plainR 5 0).1 (by have := (plainR 5 0).2; show PyData.depthAll _ + 1 ≤ 60; omega)

theorem all_mk {P : Program} {w : World} {K : PySem.W.Frag} {h : Heap} {mg : Str → Option Value} {fa : Addr} (X : K.In h) (G : h.Ns mainGlobals mg) (hfa : mg "law" = some (.ref fa))
    (d_is_string : ∃ f, DefAt K "is_string" s_is_string f)
    (d_is_entry : ∃ f, DefAt K "is_entry" s_is_entry f)
    (d_is_scheme : ∃ f, DefAt K "is_scheme" s_is_scheme f)
    (d_need_scheme : ∃ f, DefAt K "need_scheme" s_need_scheme f)
    (d_formatted : ∃ f, DefAt K "formatted" s_formatted f)
    (d_format_scheme : ∃ f, DefAt K "format_scheme" s_format_scheme f)
    (d_parse_scheme : ∃ f, DefAt K "parse_scheme" s_parse_scheme f)
    (d__law_draw : ∃ f, DefAt K "_law_draw" s__law_draw f)
    (d__law_pick : ∃ f, DefAt K "_law_pick" s__law_pick f)
    (d__law_string : ∃ f, DefAt K "_law_string" s__law_string f)
    (d__law_scheme : ∃ f, DefAt K "_law_scheme" s__law_scheme f)
    (d__law_any : ∃ f, DefAt K "_law_any" s__law_any f)
    (d__law_which : ∃ f, DefAt K "_law_which" s__law_which f)
    (d__law_lines : ∃ f, DefAt K "_law_lines" s__law_lines f)
    (d__law_ask : ∃ f, DefAt K "_law_ask" s__law_ask f)
    (d_law : ∃ f, DefAt K "law" s_law f)
    (b_isinstance : PySem.W.nsIn K mainGlobals "isinstance" = some none)
    (b_str : PySem.W.nsIn K mainGlobals "str" = some none)
    (b_all : PySem.W.nsIn K mainGlobals "all" = some none)
    (b_len : PySem.W.nsIn K mainGlobals "len" = some none)
    (b_tuple : PySem.W.nsIn K mainGlobals "tuple" = some none)
    (b_zip : PySem.W.nsIn K mainGlobals "zip" = some none)
    (b_range : PySem.W.nsIn K mainGlobals "range" = some none)
    (b_dict : PySem.W.nsIn K mainGlobals "dict" = some none)
    (b_sorted : PySem.W.nsIn K mainGlobals "sorted" = some none)
    (b_ValueError : PySem.W.nsIn K mainGlobals "ValueError" = some none)
    (g_PART : ∃ t, PySem.W.nsIn K mainGlobals "PART" = some (some (.int 3 t)))
    (g_LETTERS : ∃ t, PySem.W.nsIn K mainGlobals "LETTERS" = some (some (.str (sw lowers) t)))
    (g_ENTRIES : ∃ t, PySem.W.nsIn K mainGlobals "ENTRIES" = some (some (.int 10 t)))
    (x_InvalidScheme : ∃ C : Addr, PySem.W.nsIn K mainGlobals "InvalidScheme" = some (some (.ref C)) ∧ PySem.W.excIn K C [.type "ValueError", .type "Exception", .type "BaseException", .type "object"] "ValueError.__new__" = true ∧ PySem.W.keepIn K (.ref C) = true ∧ PySem.W.subIn K (.ref C) (.type "BaseException") = some true ∧ PySem.W.typeIn K (.ref C) = some (.type "type") ∧ PySem.W.isClsIn K C = true)
    (x_InvalidFormat : ∃ C : Addr, PySem.W.nsIn K mainGlobals "InvalidFormat" = some (some (.ref C)) ∧ PySem.W.excIn K C [.type "ValueError", .type "Exception", .type "BaseException", .type "object"] "ValueError.__new__" = true ∧ PySem.W.keepIn K (.ref C) = true ∧ PySem.W.subIn K (.ref C) (.type "BaseException") = some true ∧ PySem.W.typeIn K (.ref C) = some (.type "type") ∧ PySem.W.isClsIn K C = true)
    (x_InvalidWord : ∃ C : Addr, PySem.W.nsIn K mainGlobals "InvalidWord" = some (some (.ref C)) ∧ PySem.W.excIn K C [.type "ValueError", .type "Exception", .type "BaseException", .type "object"] "ValueError.__new__" = true ∧ PySem.W.keepIn K (.ref C) = true ∧ PySem.W.subIn K (.ref C) (.type "BaseException") = some true ∧ PySem.W.typeIn K (.ref C) = some (.type "type") ∧ PySem.W.isClsIn K C = true)
    (x_InvalidText : ∃ C : Addr, PySem.W.nsIn K mainGlobals "InvalidText" = some (some (.ref C)) ∧ PySem.W.excIn K C [.type "ValueError", .type "Exception", .type "BaseException", .type "object"] "ValueError.__new__" = true ∧ PySem.W.keepIn K (.ref C) = true ∧ PySem.W.subIn K (.ref C) (.type "BaseException") = some true ∧ PySem.W.typeIn K (.ref C) = some (.type "type") ∧ PySem.W.isClsIn K C = true)
    (x_Unreadable : ∃ C : Addr, PySem.W.nsIn K mainGlobals "Unreadable" = some (some (.ref C)) ∧ PySem.W.excIn K C [.type "ValueError", .type "Exception", .type "BaseException", .type "object"] "ValueError.__new__" = true ∧ PySem.W.keepIn K (.ref C) = true ∧ PySem.W.subIn K (.ref C) (.type "BaseException") = some true ∧ PySem.W.typeIn K (.ref C) = some (.type "type") ∧ PySem.W.isClsIn K C = true)
    (x_NoMarking : ∃ C : Addr, PySem.W.nsIn K mainGlobals "NoMarking" = some (some (.ref C)) ∧ PySem.W.excIn K C [.type "ValueError", .type "Exception", .type "BaseException", .type "object"] "ValueError.__new__" = true ∧ PySem.W.keepIn K (.ref C) = true ∧ PySem.W.subIn K (.ref C) (.type "BaseException") = some true ∧ PySem.W.typeIn K (.ref C) = some (.type "type") ∧ PySem.W.isClsIn K C = true)
    (x_InvalidChain : ∃ C : Addr, PySem.W.nsIn K mainGlobals "InvalidChain" = some (some (.ref C)) ∧ PySem.W.excIn K C [.type "ValueError", .type "Exception", .type "BaseException", .type "object"] "ValueError.__new__" = true ∧ PySem.W.keepIn K (.ref C) = true ∧ PySem.W.subIn K (.ref C) (.type "BaseException") = some true ∧ PySem.W.typeIn K (.ref C) = some (.type "type") ∧ PySem.W.isClsIn K C = true)
    (x_TranslitError : ∃ C : Addr, PySem.W.nsIn K mainGlobals "TranslitError" = some (some (.ref C)) ∧ PySem.W.excIn K C [.type "ValueError", .type "Exception", .type "BaseException", .type "object"] "ValueError.__new__" = true ∧ PySem.W.keepIn K (.ref C) = true ∧ PySem.W.subIn K (.ref C) (.type "BaseException") = some true ∧ PySem.W.typeIn K (.ref C) = some (.type "type") ∧ PySem.W.isClsIn K C = true)
    (s_InvalidScheme_TranslitError : ∃ C D : Addr, PySem.W.nsIn K mainGlobals "InvalidScheme" = some (some (.ref C)) ∧ PySem.W.nsIn K mainGlobals "TranslitError" = some (some (.ref D)) ∧ PySem.W.subIn K (.ref C) (.ref D) = some true)
    (s_InvalidFormat_TranslitError : ∃ C D : Addr, PySem.W.nsIn K mainGlobals "InvalidFormat" = some (some (.ref C)) ∧ PySem.W.nsIn K mainGlobals "TranslitError" = some (some (.ref D)) ∧ PySem.W.subIn K (.ref C) (.ref D) = some true)
    (s_InvalidScheme_InvalidScheme : ∃ C D : Addr, PySem.W.nsIn K mainGlobals "InvalidScheme" = some (some (.ref C)) ∧ PySem.W.nsIn K mainGlobals "InvalidScheme" = some (some (.ref D)) ∧ PySem.W.subIn K (.ref C) (.ref D) = some true)
    (s_InvalidFormat_InvalidScheme : ∃ C D : Addr, PySem.W.nsIn K mainGlobals "InvalidFormat" = some (some (.ref C)) ∧ PySem.W.nsIn K mainGlobals "InvalidScheme" = some (some (.ref D)) ∧ PySem.W.subIn K (.ref C) (.ref D) = some false)
    (s_InvalidScheme_InvalidWord : ∃ C D : Addr, PySem.W.nsIn K mainGlobals "InvalidScheme" = some (some (.ref C)) ∧ PySem.W.nsIn K mainGlobals "InvalidWord" = some (some (.ref D)) ∧ PySem.W.subIn K (.ref C) (.ref D) = some false)
    (s_InvalidFormat_InvalidWord : ∃ C D : Addr, PySem.W.nsIn K mainGlobals "InvalidFormat" = some (some (.ref C)) ∧ PySem.W.nsIn K mainGlobals "InvalidWord" = some (some (.ref D)) ∧ PySem.W.subIn K (.ref C) (.ref D) = some false)
    (s_InvalidScheme_InvalidText : ∃ C D : Addr, PySem.W.nsIn K mainGlobals "InvalidScheme" = some (some (.ref C)) ∧ PySem.W.nsIn K mainGlobals "InvalidText" = some (some (.ref D)) ∧ PySem.W.subIn K (.ref C) (.ref D) = some false)
    (s_InvalidFormat_InvalidText : ∃ C D : Addr, PySem.W.nsIn K mainGlobals "InvalidFormat" = some (some (.ref C)) ∧ PySem.W.nsIn K mainGlobals "InvalidText" = some (some (.ref D)) ∧ PySem.W.subIn K (.ref C) (.ref D) = some false)
    (s_InvalidScheme_Unreadable : ∃ C D : Addr, PySem.W.nsIn K mainGlobals "InvalidScheme" = some (some (.ref C)) ∧ PySem.W.nsIn K mainGlobals "Unreadable" = some (some (.ref D)) ∧ PySem.W.subIn K (.ref C) (.ref D) = some false)
    (s_InvalidFormat_Unreadable : ∃ C D : Addr, PySem.W.nsIn K mainGlobals "InvalidFormat" = some (some (.ref C)) ∧ PySem.W.nsIn K mainGlobals "Unreadable" = some (some (.ref D)) ∧ PySem.W.subIn K (.ref C) (.ref D) = some false)
    (s_InvalidScheme_NoMarking : ∃ C D : Addr, PySem.W.nsIn K mainGlobals "InvalidScheme" = some (some (.ref C)) ∧ PySem.W.nsIn K mainGlobals "NoMarking" = some (some (.ref D)) ∧ PySem.W.subIn K (.ref C) (.ref D) = some false)
    (s_InvalidFormat_NoMarking : ∃ C D : Addr, PySem.W.nsIn K mainGlobals "InvalidFormat" = some (some (.ref C)) ∧ PySem.W.nsIn K mainGlobals "NoMarking" = some (some (.ref D)) ∧ PySem.W.subIn K (.ref C) (.ref D) = some false)
    (s_InvalidScheme_InvalidChain : ∃ C D : Addr, PySem.W.nsIn K mainGlobals "InvalidScheme" = some (some (.ref C)) ∧ PySem.W.nsIn K mainGlobals "InvalidChain" = some (some (.ref D)) ∧ PySem.W.subIn K (.ref C) (.ref D) = some false)
    (s_InvalidFormat_InvalidChain : ∃ C D : Addr, PySem.W.nsIn K mainGlobals "InvalidFormat" = some (some (.ref C)) ∧ PySem.W.nsIn K mainGlobals "InvalidChain" = some (some (.ref D)) ∧ PySem.W.subIn K (.ref C) (.ref D) = some false)
    (s_InvalidScheme_InvalidFormat : ∃ C D : Addr, PySem.W.nsIn K mainGlobals "InvalidScheme" = some (some (.ref C)) ∧ PySem.W.nsIn K mainGlobals "InvalidFormat" = some (some (.ref D)) ∧ PySem.W.subIn K (.ref C) (.ref D) = some false)
    (s_InvalidFormat_InvalidFormat : ∃ C D : Addr, PySem.W.nsIn K mainGlobals "InvalidFormat" = some (some (.ref C)) ∧ PySem.W.nsIn K mainGlobals "InvalidFormat" = some (some (.ref D)) ∧ PySem.W.subIn K (.ref C) (.ref D) = some true)
    (w_InvalidScheme : ∃ C : Addr, PySem.W.nsIn K mainGlobals "InvalidScheme" = some (some (.ref C)) ∧ ExcC K C ∧ PySem.W.subIn K (.ref C) (.type "ValueError") = some true)
    (w_InvalidFormat : ∃ C : Addr, PySem.W.nsIn K mainGlobals "InvalidFormat" = some (some (.ref C)) ∧ ExcC K C ∧ PySem.W.subIn K (.ref C) (.type "ValueError") = some true) :
    ∃ fd : FuncData, (∀ (s : Shared) (u : Value), BindsTo s fd ⟨[u], []⟩ [("_law_script", u)]) ∧ ∀ base : Heap, K.In base → base.Ns mainGlobals mg → FnOk P w K mg base (L2N.CX P w) 100 fa fd ["_law_script"] (spLaw K) := by
  have hm : Left K mg := left_of X G
  have hx_InvalidScheme : ExcT K mg "InvalidScheme" := let ⟨C, a, q, k, b, t, i⟩ := x_InvalidScheme; ExcT.of hm a q k b t i
  have hx_InvalidFormat : ExcT K mg "InvalidFormat" := let ⟨C, a, q, k, b, t, i⟩ := x_InvalidFormat; ExcT.of hm a q k b t i
  have hx_InvalidWord : ExcT K mg "InvalidWord" := let ⟨C, a, q, k, b, t, i⟩ := x_InvalidWord; ExcT.of hm a q k b t i
  have hx_InvalidText : ExcT K mg "InvalidText" := let ⟨C, a, q, k, b, t, i⟩ := x_InvalidText; ExcT.of hm a q k b t i
  have hx_Unreadable : ExcT K mg "Unreadable" := let ⟨C, a, q, k, b, t, i⟩ := x_Unreadable; ExcT.of hm a q k b t i
  have hx_NoMarking : ExcT K mg "NoMarking" := let ⟨C, a, q, k, b, t, i⟩ := x_NoMarking; ExcT.of hm a q k b t i
  have hx_InvalidChain : ExcT K mg "InvalidChain" := let ⟨C, a, q, k, b, t, i⟩ := x_InvalidChain; ExcT.of hm a q k b t i
  have hx_TranslitError : ExcT K mg "TranslitError" := let ⟨C, a, q, k, b, t, i⟩ := x_TranslitError; ExcT.of hm a q k b t i
  have hs_InvalidScheme_TranslitError : PySem.W.subIn K (.ref (xa mg "InvalidScheme")) (.ref (xa mg "TranslitError")) = some true := let ⟨C, D, a, b, e⟩ := s_InvalidScheme_TranslitError; sub_of hm a b e
  have hs_InvalidFormat_TranslitError : PySem.W.subIn K (.ref (xa mg "InvalidFormat")) (.ref (xa mg "TranslitError")) = some true := let ⟨C, D, a, b, e⟩ := s_InvalidFormat_TranslitError; sub_of hm a b e
  have hs_InvalidScheme_InvalidScheme : PySem.W.subIn K (.ref (xa mg "InvalidScheme")) (.ref (xa mg "InvalidScheme")) = some true := let ⟨C, D, a, b, e⟩ := s_InvalidScheme_InvalidScheme; sub_of hm a b e
  have hs_InvalidFormat_InvalidScheme : PySem.W.subIn K (.ref (xa mg "InvalidFormat")) (.ref (xa mg "InvalidScheme")) = some false := let ⟨C, D, a, b, e⟩ := s_InvalidFormat_InvalidScheme; sub_of hm a b e
  have hs_InvalidScheme_InvalidWord : PySem.W.subIn K (.ref (xa mg "InvalidScheme")) (.ref (xa mg "InvalidWord")) = some false := let ⟨C, D, a, b, e⟩ := s_InvalidScheme_InvalidWord; sub_of hm a b e
  have hs_InvalidFormat_InvalidWord : PySem.W.subIn K (.ref (xa mg "InvalidFormat")) (.ref (xa mg "InvalidWord")) = some false := let ⟨C, D, a, b, e⟩ := s_InvalidFormat_InvalidWord; sub_of hm a b e
  have hs_InvalidScheme_InvalidText : PySem.W.subIn K (.ref (xa mg "InvalidScheme")) (.ref (xa mg "InvalidText")) = some false := let ⟨C, D, a, b, e⟩ := s_InvalidScheme_InvalidText; sub_of hm a b e
  have hs_InvalidFormat_InvalidText : PySem.W.subIn K (.ref (xa mg "InvalidFormat")) (.ref (xa mg "InvalidText")) = some false := let ⟨C, D, a, b, e⟩ := s_InvalidFormat_InvalidText; sub_of hm a b e
  have hs_InvalidScheme_Unreadable : PySem.W.subIn K (.ref (xa mg "InvalidScheme")) (.ref (xa mg "Unreadable")) = some false := let ⟨C, D, a, b, e⟩ := s_InvalidScheme_Unreadable; sub_of hm a b e
  have hs_InvalidFormat_Unreadable : PySem.W.subIn K (.ref (xa mg "InvalidFormat")) (.ref (xa mg "Unreadable")) = some false := let ⟨C, D, a, b, e⟩ := s_InvalidFormat_Unreadable; sub_of hm a b e
  have hs_InvalidScheme_NoMarking : PySem.W.subIn K (.ref (xa mg "InvalidScheme")) (.ref (xa mg "NoMarking")) = some false := let ⟨C, D, a, b, e⟩ := s_InvalidScheme_NoMarking; sub_of hm a b e
  have hs_InvalidFormat_NoMarking : PySem.W.subIn K (.ref (xa mg "InvalidFormat")) (.ref (xa mg "NoMarking")) = some false := let ⟨C, D, a, b, e⟩ := s_InvalidFormat_NoMarking; sub_of hm a b e
  have hs_InvalidScheme_InvalidChain : PySem.W.subIn K (.ref (xa mg "InvalidScheme")) (.ref (xa mg "InvalidChain")) = some false := let ⟨C, D, a, b, e⟩ := s_InvalidScheme_InvalidChain; sub_of hm a b e
  have hs_InvalidFormat_InvalidChain : PySem.W.subIn K (.ref (xa mg "InvalidFormat")) (.ref (xa mg "InvalidChain")) = some false := let ⟨C, D, a, b, e⟩ := s_InvalidFormat_InvalidChain; sub_of hm a b e
  have hs_InvalidScheme_InvalidFormat : PySem.W.subIn K (.ref (xa mg "InvalidScheme")) (.ref (xa mg "InvalidFormat")) = some false := let ⟨C, D, a, b, e⟩ := s_InvalidScheme_InvalidFormat; sub_of hm a b e
  have hs_InvalidFormat_InvalidFormat : PySem.W.subIn K (.ref (xa mg "InvalidFormat")) (.ref (xa mg "InvalidFormat")) = some true := let ⟨C, D, a, b, e⟩ := s_InvalidFormat_InvalidFormat; sub_of hm a b e
  have hi_InvalidScheme : ∀ (y : Str) (i : Int), (y, i) ∈ whichAll → ExcT K mg y ∧ PySem.W.subIn K (.ref (xa mg "InvalidScheme")) (.ref (xa mg y)) = some (decide (i = 0)) := by
    intro y i hy
    simp only [whichAll, List.mem_cons, Prod.mk.injEq, List.not_mem_nil, or_false] at hy
    rcases hy with ⟨rfl, rfl⟩ | ⟨rfl, rfl⟩ | ⟨rfl, rfl⟩ | ⟨rfl, rfl⟩ | ⟨rfl, rfl⟩ | ⟨rfl, rfl⟩ | ⟨rfl, rfl⟩
    · exact ⟨hx_InvalidScheme, hs_InvalidScheme_InvalidScheme⟩
    · exact ⟨hx_InvalidWord, hs_InvalidScheme_InvalidWord⟩
    · exact ⟨hx_InvalidText, hs_InvalidScheme_InvalidText⟩
    · exact ⟨hx_Unreadable, hs_InvalidScheme_Unreadable⟩
    · exact ⟨hx_NoMarking, hs_InvalidScheme_NoMarking⟩
    · exact ⟨hx_InvalidChain, hs_InvalidScheme_InvalidChain⟩
    · exact ⟨hx_InvalidFormat, hs_InvalidScheme_InvalidFormat⟩
  have hi_InvalidFormat : ∀ (y : Str) (i : Int), (y, i) ∈ whichAll → ExcT K mg y ∧ PySem.W.subIn K (.ref (xa mg "InvalidFormat")) (.ref (xa mg y)) = some (decide (i = 6)) := by
    intro y i hy
    simp only [whichAll, List.mem_cons, Prod.mk.injEq, List.not_mem_nil, or_false] at hy
    rcases hy with ⟨rfl, rfl⟩ | ⟨rfl, rfl⟩ | ⟨rfl, rfl⟩ | ⟨rfl, rfl⟩ | ⟨rfl, rfl⟩ | ⟨rfl, rfl⟩ | ⟨rfl, rfl⟩
    · exact ⟨hx_InvalidScheme, hs_InvalidFormat_InvalidScheme⟩
    · exact ⟨hx_InvalidWord, hs_InvalidFormat_InvalidWord⟩
    · exact ⟨hx_InvalidText, hs_InvalidFormat_InvalidText⟩
    · exact ⟨hx_Unreadable, hs_InvalidFormat_Unreadable⟩
    · exact ⟨hx_NoMarking, hs_InvalidFormat_NoMarking⟩
    · exact ⟨hx_InvalidChain, hs_InvalidFormat_InvalidChain⟩
    · exact ⟨hx_InvalidFormat, hs_InvalidFormat_InvalidFormat⟩
  have T : Txt K mg := {
    b_isinstance := hm _ _ b_isinstance
    b_str := hm _ _ b_str
    b_all := hm _ _ b_all
    b_len := hm _ _ b_len
    b_tuple := hm _ _ b_tuple
    b_zip := hm _ _ b_zip
    b_range := hm _ _ b_range
    b_dict := hm _ _ b_dict
    b_sorted := hm _ _ b_sorted
    b_ValueError := hm _ _ b_ValueError
    g_PART := (g_PART).imp fun t e => hm _ _ e
    g_LETTERS := (g_LETTERS).imp fun t e => hm _ _ e
    g_ENTRIES := (g_ENTRIES).imp fun t e => hm _ _ e
    x_InvalidScheme := hx_InvalidScheme
    x_InvalidFormat := hx_InvalidFormat
    x_InvalidWord := hx_InvalidWord
    x_InvalidText := hx_InvalidText
    x_Unreadable := hx_Unreadable
    x_NoMarking := hx_NoMarking
    x_InvalidChain := hx_InvalidChain
    x_TranslitError := hx_TranslitError
    s_InvalidScheme_TranslitError := hs_InvalidScheme_TranslitError
    s_InvalidFormat_TranslitError := hs_InvalidFormat_TranslitError
    s_InvalidScheme_InvalidScheme := hs_InvalidScheme_InvalidScheme
    s_InvalidFormat_InvalidScheme := hs_InvalidFormat_InvalidScheme
    s_InvalidScheme_InvalidWord := hs_InvalidScheme_InvalidWord
    s_InvalidFormat_InvalidWord := hs_InvalidFormat_InvalidWord
    s_InvalidScheme_InvalidText := hs_InvalidScheme_InvalidText
    s_InvalidFormat_InvalidText := hs_InvalidFormat_InvalidText
    s_InvalidScheme_Unreadable := hs_InvalidScheme_Unreadable
    s_InvalidFormat_Unreadable := hs_InvalidFormat_Unreadable
    s_InvalidScheme_NoMarking := hs_InvalidScheme_NoMarking
    s_InvalidFormat_NoMarking := hs_InvalidFormat_NoMarking
    s_InvalidScheme_InvalidChain := hs_InvalidScheme_InvalidChain
    s_InvalidFormat_InvalidChain := hs_InvalidFormat_InvalidChain
    s_InvalidScheme_InvalidFormat := hs_InvalidScheme_InvalidFormat
    s_InvalidFormat_InvalidFormat := hs_InvalidFormat_InvalidFormat
    w_InvalidScheme := which_mk (j := 0) hm w_InvalidScheme hi_InvalidScheme (by simp [whichAll])
    w_InvalidFormat := which_mk (j := 6) hm w_InvalidFormat hi_InvalidFormat (by simp [whichAll]) }
  have c_is_string := fun base : Heap => Tx.c_is_string (P := P) (w := w) (base := base) T d_is_string hm
  have c_formatted := fun base : Heap => Tx.c_formatted (P := P) (w := w) (base := base) T d_formatted hm
  have c__law_draw := fun base : Heap => Tx.c__law_draw (P := P) (w := w) (base := base) T d__law_draw hm
  have c__law_which := fun base : Heap => Tx.c__law_which (P := P) (w := w) (base := base) T d__law_which hm
  have c__law_lines := fun base : Heap => Tx.c__law_lines (P := P) (w := w) (base := base) T d__law_lines hm
  have c_is_entry := fun base : Heap => Tx.c_is_entry (P := P) (w := w) (base := base) T d_is_entry hm (c_is_string base)
  have c__law_pick := fun base : Heap => Tx.c__law_pick (P := P) (w := w) (base := base) T d__law_pick hm (c__law_draw base)
  have c_is_scheme := fun base : Heap => Tx.c_is_scheme (P := P) (w := w) (base := base) T d_is_scheme hm (c_is_entry base)
  have c__law_string := fun base : Heap => Tx.c__law_string (P := P) (w := w) (base := base) T d__law_string hm (c__law_pick base) (c__law_draw base)
  have c_need_scheme := fun base : Heap => Tx.c_need_scheme (P := P) (w := w) (base := base) T d_need_scheme hm (c_is_scheme base)
  have c_parse_scheme := fun base : Heap => Tx.c_parse_scheme (P := P) (w := w) (base := base) T d_parse_scheme hm (c_is_scheme base) (c_formatted base)
  have c__law_scheme := fun base : Heap => Tx.c__law_scheme (P := P) (w := w) (base := base) T d__law_scheme hm (c__law_draw base) (c__law_string base)
  have c_format_scheme := fun base : Heap => Tx.c_format_scheme (P := P) (w := w) (base := base) T d_format_scheme hm (c_need_scheme base) (c_formatted base)
  have c__law_any := fun base : Heap => Tx.c__law_any (P := P) (w := w) (base := base) T d__law_any hm (c__law_pick base) (c__law_scheme base)
  have c__law_ask := fun base : Heap => Tx.c__law_ask (P := P) (w := w) (base := base) T d__law_ask hm (c__law_which base) (c_format_scheme base) (c_parse_scheme base)
  exact Tx.c_law T d_law hm hfa c__law_any c__law_lines c__law_draw c__law_pick c__law_ask
theorem walk {l : PySem.W.OpenLaw} {q : Program} {loose : List Str} {XP : (Str → Option Value) → Heap → Prop} {YP : World → Heap → Prop} {d : DefRec} {K : Params → PySem.W.Frag} (hn : l.most = some 63) (hdf : d.params.defaults = [])
    (hY : ∀ (w : World) (h : Heap), YP w h → (K w.params).In h)
    (F : ∀ (w : World) (mg : Str → Option Value) (fa : Addr) (h : Heap), (K w.params).In h → h.Ns mainGlobals mg → mg d.name = some (.ref fa) →
      ∃ fd : FuncData, (∀ (s : Shared) (u : Value), BindsTo s fd ⟨[u], []⟩ [("_law_script", u)]) ∧ ∀ base : Heap, (K w.params).In base → base.Ns mainGlobals mg → FnOk l.prog w (K w.params) mg base (L2N.CX l.prog w) 100 fa fd ["_law_script"] (spLaw (K w.params))) :
    PySem.W.WalkO q loose XP YP l.row.toRowW d [] (fun f vs => PySem.call f vs) :=
  L2.walk_of (n := 63) (k := 100) (x := "_law_script") (CX := fun w => L2N.CX l.prog w) (sp := fun w => spLaw (K w.params)) hn (by decide) hdf ⟨rfl, by decide, by decide⟩ hY F (fun _ _ a ns hl _ hS => ⟨a, ns, rfl, hS, hl, fun _ => rfl⟩) fun w H s e s' z => by
    obtain ⟨_, _, _, _, _, _, _, _, _, _, _, _, z⟩ := z
    exact z.elim
end Tx
open PySem PySem.W PyProof.Rows
set_option maxRecDepth 100000 in
set_option maxHeartbeats 0 in
theorem PySem.Challenge.cw_translit_k12_whole_formats_holds : PySem.Challenge.rw_translit_k12_whole_formats.Holds := by
  w_on; o_law; k_head; (case hw => w_witness2)
  k_fill
  refine Tx.walk (l := PySem.Challenge.rw_translit_k12_whole_formats) rfl rfl (fun w h Y => PySem.W.kIn_of Y) ?F
  case F =>
    intro w mg fa h KX G hmg
    refine Tx.all_mk KX G hmg ?d_is_string ?d_is_entry ?d_is_scheme ?d_need_scheme ?d_formatted ?d_format_scheme ?d_parse_scheme ?d__law_draw ?d__law_pick ?d__law_string ?d__law_scheme ?d__law_any ?d__law_which ?d__law_lines ?d__law_ask ?d_law ?b_isinstance ?b_str ?b_all ?b_len ?b_tuple ?b_zip ?b_range ?b_dict ?b_sorted ?b_ValueError ?g_PART ?g_LETTERS ?g_ENTRIES ?x_InvalidScheme ?x_InvalidFormat ?x_InvalidWord ?x_InvalidText ?x_Unreadable ?x_NoMarking ?x_InvalidChain ?x_TranslitError ?s_InvalidScheme_TranslitError ?s_InvalidFormat_TranslitError ?s_InvalidScheme_InvalidScheme ?s_InvalidFormat_InvalidScheme ?s_InvalidScheme_InvalidWord ?s_InvalidFormat_InvalidWord ?s_InvalidScheme_InvalidText ?s_InvalidFormat_InvalidText ?s_InvalidScheme_Unreadable ?s_InvalidFormat_Unreadable ?s_InvalidScheme_NoMarking ?s_InvalidFormat_NoMarking ?s_InvalidScheme_InvalidChain ?s_InvalidFormat_InvalidChain ?s_InvalidScheme_InvalidFormat ?s_InvalidFormat_InvalidFormat ?w_InvalidScheme ?w_InvalidFormat
    (case d_is_string => refine' TD.def_mk ?a ?l ?c ?k; (case a => k_is); (case l => k_is); (case c => k_is); (case k => k_is))
    (case d_is_entry => refine' TD.def_mk ?a ?l ?c ?k; (case a => k_is); (case l => k_is); (case c => k_is); (case k => k_is))
    (case d_is_scheme => refine' TD.def_mk ?a ?l ?c ?k; (case a => k_is); (case l => k_is); (case c => k_is); (case k => k_is))
    (case d_need_scheme => refine' TD.def_mk ?a ?l ?c ?k; (case a => k_is); (case l => k_is); (case c => k_is); (case k => k_is))
    (case d_formatted => refine' TD.def_mk ?a ?l ?c ?k; (case a => k_is); (case l => k_is); (case c => k_is); (case k => k_is))
    (case d_format_scheme => refine' TD.def_mk ?a ?l ?c ?k; (case a => k_is); (case l => k_is); (case c => k_is); (case k => k_is))
    (case d_parse_scheme => refine' TD.def_mk ?a ?l ?c ?k; (case a => k_is); (case l => k_is); (case c => k_is); (case k => k_is))
    (case d__law_draw => refine' TD.def_mk ?a ?l ?c ?k; (case a => k_is); (case l => k_is); (case c => k_is); (case k => k_is))
    (case d__law_pick => refine' TD.def_mk ?a ?l ?c ?k; (case a => k_is); (case l => k_is); (case c => k_is); (case k => k_is))
    (case d__law_string => refine' TD.def_mk ?a ?l ?c ?k; (case a => k_is); (case l => k_is); (case c => k_is); (case k => k_is))
    (case d__law_scheme => refine' TD.def_mk ?a ?l ?c ?k; (case a => k_is); (case l => k_is); (case c => k_is); (case k => k_is))
    (case d__law_any => refine' TD.def_mk ?a ?l ?c ?k; (case a => k_is); (case l => k_is); (case c => k_is); (case k => k_is))
    (case d__law_which => refine' TD.def_mk ?a ?l ?c ?k; (case a => k_is); (case l => k_is); (case c => k_is); (case k => k_is))
    (case d__law_lines => refine' TD.def_mk ?a ?l ?c ?k; (case a => k_is); (case l => k_is); (case c => k_is); (case k => k_is))
    (case d__law_ask => refine' TD.def_mk ?a ?l ?c ?k; (case a => k_is); (case l => k_is); (case c => k_is); (case k => k_is))
    (case d_law => refine' TD.def_mk ?a ?l ?c ?k; (case a => k_is); (case l => k_is); (case c => k_is); (case k => k_is))
    (case b_isinstance => k_is)
    (case b_str => k_is)
    (case b_all => k_is)
    (case b_len => k_is)
    (case b_tuple => k_is)
    (case b_zip => k_is)
    (case b_range => k_is)
    (case b_dict => k_is)
    (case b_sorted => k_is)
    (case b_ValueError => k_is)
    (case g_PART => refine' TD.int_mk ?ga_PART; (case ga_PART => k_is))
    (case g_LETTERS => refine' TD.str_mk ?ga_LETTERS ?ge_LETTERS; (case ga_LETTERS => k_is); (case ge_LETTERS => decide +kernel))
    (case g_ENTRIES => refine' TD.int_mk ?ga_ENTRIES; (case ga_ENTRIES => k_is))
    (case x_InvalidScheme => refine' TD.exc_mk ?xa_InvalidScheme ?xq_InvalidScheme ?xk_InvalidScheme ?xb_InvalidScheme ?xt_InvalidScheme ?xi_InvalidScheme; (case xa_InvalidScheme => k_is); (case xq_InvalidScheme => k_exc); (case xk_InvalidScheme => k_is); (case xb_InvalidScheme => k_is); (case xt_InvalidScheme => k_is); (case xi_InvalidScheme => k_is))
    (case x_InvalidFormat => refine' TD.exc_mk ?xa_InvalidFormat ?xq_InvalidFormat ?xk_InvalidFormat ?xb_InvalidFormat ?xt_InvalidFormat ?xi_InvalidFormat; (case xa_InvalidFormat => k_is); (case xq_InvalidFormat => k_exc); (case xk_InvalidFormat => k_is); (case xb_InvalidFormat => k_is); (case xt_InvalidFormat => k_is); (case xi_InvalidFormat => k_is))
    (case x_InvalidWord => refine' TD.exc_mk ?xa_InvalidWord ?xq_InvalidWord ?xk_InvalidWord ?xb_InvalidWord ?xt_InvalidWord ?xi_InvalidWord; (case xa_InvalidWord => k_is); (case xq_InvalidWord => k_exc); (case xk_InvalidWord => k_is); (case xb_InvalidWord => k_is); (case xt_InvalidWord => k_is); (case xi_InvalidWord => k_is))
    (case x_InvalidText => refine' TD.exc_mk ?xa_InvalidText ?xq_InvalidText ?xk_InvalidText ?xb_InvalidText ?xt_InvalidText ?xi_InvalidText; (case xa_InvalidText => k_is); (case xq_InvalidText => k_exc); (case xk_InvalidText => k_is); (case xb_InvalidText => k_is); (case xt_InvalidText => k_is); (case xi_InvalidText => k_is))
    (case x_Unreadable => refine' TD.exc_mk ?xa_Unreadable ?xq_Unreadable ?xk_Unreadable ?xb_Unreadable ?xt_Unreadable ?xi_Unreadable; (case xa_Unreadable => k_is); (case xq_Unreadable => k_exc); (case xk_Unreadable => k_is); (case xb_Unreadable => k_is); (case xt_Unreadable => k_is); (case xi_Unreadable => k_is))
    (case x_NoMarking => refine' TD.exc_mk ?xa_NoMarking ?xq_NoMarking ?xk_NoMarking ?xb_NoMarking ?xt_NoMarking ?xi_NoMarking; (case xa_NoMarking => k_is); (case xq_NoMarking => k_exc); (case xk_NoMarking => k_is); (case xb_NoMarking => k_is); (case xt_NoMarking => k_is); (case xi_NoMarking => k_is))
    (case x_InvalidChain => refine' TD.exc_mk ?xa_InvalidChain ?xq_InvalidChain ?xk_InvalidChain ?xb_InvalidChain ?xt_InvalidChain ?xi_InvalidChain; (case xa_InvalidChain => k_is); (case xq_InvalidChain => k_exc); (case xk_InvalidChain => k_is); (case xb_InvalidChain => k_is); (case xt_InvalidChain => k_is); (case xi_InvalidChain => k_is))
    (case x_TranslitError => refine' TD.exc_mk ?xa_TranslitError ?xq_TranslitError ?xk_TranslitError ?xb_TranslitError ?xt_TranslitError ?xi_TranslitError; (case xa_TranslitError => k_is); (case xq_TranslitError => k_exc); (case xk_TranslitError => k_is); (case xb_TranslitError => k_is); (case xt_TranslitError => k_is); (case xi_TranslitError => k_is))
    (case s_InvalidScheme_TranslitError => refine' TD.sub_mk ?sa_InvalidScheme_TranslitError ?sb_InvalidScheme_TranslitError ?se_InvalidScheme_TranslitError; (case sa_InvalidScheme_TranslitError => k_is); (case sb_InvalidScheme_TranslitError => k_is); (case se_InvalidScheme_TranslitError => first | rfl | k_is))
    (case s_InvalidFormat_TranslitError => refine' TD.sub_mk ?sa_InvalidFormat_TranslitError ?sb_InvalidFormat_TranslitError ?se_InvalidFormat_TranslitError; (case sa_InvalidFormat_TranslitError => k_is); (case sb_InvalidFormat_TranslitError => k_is); (case se_InvalidFormat_TranslitError => first | rfl | k_is))
    (case s_InvalidScheme_InvalidScheme => refine' TD.sub_mk ?sa_InvalidScheme_InvalidScheme ?sb_InvalidScheme_InvalidScheme ?se_InvalidScheme_InvalidScheme; (case sa_InvalidScheme_InvalidScheme => k_is); (case sb_InvalidScheme_InvalidScheme => k_is); (case se_InvalidScheme_InvalidScheme => first | rfl | k_is))
    (case s_InvalidFormat_InvalidScheme => refine' TD.sub_mk ?sa_InvalidFormat_InvalidScheme ?sb_InvalidFormat_InvalidScheme ?se_InvalidFormat_InvalidScheme; (case sa_InvalidFormat_InvalidScheme => k_is); (case sb_InvalidFormat_InvalidScheme => k_is); (case se_InvalidFormat_InvalidScheme => first | rfl | k_is))
    (case s_InvalidScheme_InvalidWord => refine' TD.sub_mk ?sa_InvalidScheme_InvalidWord ?sb_InvalidScheme_InvalidWord ?se_InvalidScheme_InvalidWord; (case sa_InvalidScheme_InvalidWord => k_is); (case sb_InvalidScheme_InvalidWord => k_is); (case se_InvalidScheme_InvalidWord => first | rfl | k_is))
    (case s_InvalidFormat_InvalidWord => refine' TD.sub_mk ?sa_InvalidFormat_InvalidWord ?sb_InvalidFormat_InvalidWord ?se_InvalidFormat_InvalidWord; (case sa_InvalidFormat_InvalidWord => k_is); (case sb_InvalidFormat_InvalidWord => k_is); (case se_InvalidFormat_InvalidWord => first | rfl | k_is))
    (case s_InvalidScheme_InvalidText => refine' TD.sub_mk ?sa_InvalidScheme_InvalidText ?sb_InvalidScheme_InvalidText ?se_InvalidScheme_InvalidText; (case sa_InvalidScheme_InvalidText => k_is); (case sb_InvalidScheme_InvalidText => k_is); (case se_InvalidScheme_InvalidText => first | rfl | k_is))
    (case s_InvalidFormat_InvalidText => refine' TD.sub_mk ?sa_InvalidFormat_InvalidText ?sb_InvalidFormat_InvalidText ?se_InvalidFormat_InvalidText; (case sa_InvalidFormat_InvalidText => k_is); (case sb_InvalidFormat_InvalidText => k_is); (case se_InvalidFormat_InvalidText => first | rfl | k_is))
    (case s_InvalidScheme_Unreadable => refine' TD.sub_mk ?sa_InvalidScheme_Unreadable ?sb_InvalidScheme_Unreadable ?se_InvalidScheme_Unreadable; (case sa_InvalidScheme_Unreadable => k_is); (case sb_InvalidScheme_Unreadable => k_is); (case se_InvalidScheme_Unreadable => first | rfl | k_is))
    (case s_InvalidFormat_Unreadable => refine' TD.sub_mk ?sa_InvalidFormat_Unreadable ?sb_InvalidFormat_Unreadable ?se_InvalidFormat_Unreadable; (case sa_InvalidFormat_Unreadable => k_is); (case sb_InvalidFormat_Unreadable => k_is); (case se_InvalidFormat_Unreadable => first | rfl | k_is))
    (case s_InvalidScheme_NoMarking => refine' TD.sub_mk ?sa_InvalidScheme_NoMarking ?sb_InvalidScheme_NoMarking ?se_InvalidScheme_NoMarking; (case sa_InvalidScheme_NoMarking => k_is); (case sb_InvalidScheme_NoMarking => k_is); (case se_InvalidScheme_NoMarking => first | rfl | k_is))
    (case s_InvalidFormat_NoMarking => refine' TD.sub_mk ?sa_InvalidFormat_NoMarking ?sb_InvalidFormat_NoMarking ?se_InvalidFormat_NoMarking; (case sa_InvalidFormat_NoMarking => k_is); (case sb_InvalidFormat_NoMarking => k_is); (case se_InvalidFormat_NoMarking => first | rfl | k_is))
    (case s_InvalidScheme_InvalidChain => refine' TD.sub_mk ?sa_InvalidScheme_InvalidChain ?sb_InvalidScheme_InvalidChain ?se_InvalidScheme_InvalidChain; (case sa_InvalidScheme_InvalidChain => k_is); (case sb_InvalidScheme_InvalidChain => k_is); (case se_InvalidScheme_InvalidChain => first | rfl | k_is))
    (case s_InvalidFormat_InvalidChain => refine' TD.sub_mk ?sa_InvalidFormat_InvalidChain ?sb_InvalidFormat_InvalidChain ?se_InvalidFormat_InvalidChain; (case sa_InvalidFormat_InvalidChain => k_is); (case sb_InvalidFormat_InvalidChain => k_is); (case se_InvalidFormat_InvalidChain => first | rfl | k_is))
    (case s_InvalidScheme_InvalidFormat => refine' TD.sub_mk ?sa_InvalidScheme_InvalidFormat ?sb_InvalidScheme_InvalidFormat ?se_InvalidScheme_InvalidFormat; (case sa_InvalidScheme_InvalidFormat => k_is); (case sb_InvalidScheme_InvalidFormat => k_is); (case se_InvalidScheme_InvalidFormat => first | rfl | k_is))
    (case s_InvalidFormat_InvalidFormat => refine' TD.sub_mk ?sa_InvalidFormat_InvalidFormat ?sb_InvalidFormat_InvalidFormat ?se_InvalidFormat_InvalidFormat; (case sa_InvalidFormat_InvalidFormat => k_is); (case sb_InvalidFormat_InvalidFormat => k_is); (case se_InvalidFormat_InvalidFormat => first | rfl | k_is))
    (case w_InvalidScheme => refine' TD.excc_mk ?wa_InvalidScheme ?wb_InvalidScheme ?wc_InvalidScheme ?wd_InvalidScheme ?we_InvalidScheme ?wf_InvalidScheme ?wg_InvalidScheme ?wh_InvalidScheme ?wi_InvalidScheme ?wj_InvalidScheme; (case wa_InvalidScheme => k_is); (case wb_InvalidScheme => k_is); (case wc_InvalidScheme => k_is); (case wd_InvalidScheme => k_is); (case we_InvalidScheme => k_is); (case wf_InvalidScheme => k_is); (case wg_InvalidScheme => k_is); (case wh_InvalidScheme => k_is); (case wi_InvalidScheme => k_is); (case wj_InvalidScheme => k_is))
    (case w_InvalidFormat => refine' TD.excc_mk ?wa_InvalidFormat ?wb_InvalidFormat ?wc_InvalidFormat ?wd_InvalidFormat ?we_InvalidFormat ?wf_InvalidFormat ?wg_InvalidFormat ?wh_InvalidFormat ?wi_InvalidFormat ?wj_InvalidFormat; (case wa_InvalidFormat => k_is); (case wb_InvalidFormat => k_is); (case wc_InvalidFormat => k_is); (case wd_InvalidFormat => k_is); (case we_InvalidFormat => k_is); (case wf_InvalidFormat => k_is); (case wg_InvalidFormat => k_is); (case wh_InvalidFormat => k_is); (case wi_InvalidFormat => k_is); (case wj_InvalidFormat => k_is))
