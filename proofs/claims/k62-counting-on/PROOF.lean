import PyProof.Rows.All
import Wide.All
import OpenK.AllK
import Wide.FinOn
import HandS.ForMost
import HandS.IsInst
import HandS.Wide
import HandS.Evl
import HandS.Zip
import HandS.Gcd
import HandS.SortInts
import HandS.Defaults
import HandS.More
import HandS.Conv
import PyProof.ReprRoads
import HandS.WideBits
import HandS.SetFor
import HandS.Rev
import HandS.Ends
import PySem.Challenge.RW_suretricks_k62_whole_counting_on
set_option Elab.async false
set_option linter.all false
set_option maxRecDepth 100000
set_option maxHeartbeats 4000000
/-! Z1: data in the heap, slots that own a list, growth of the heap, what readings compute. -/
namespace Z
open PySem PySem.Spec PyProof.Rows L2
open Evl (Ex)

abbrev D := PyData
/-- not by unfolding: the kernel is to go by the rule -/
theorem nrfl {α : Sort _} {a b : α} (h : a = b) : a = b := h
/-- the law's script as data of its own kind: no list of the program's (it is read by a slice and by len alone) -/
def scrOf : List (D × D) → Option (List Int)
  | [] => some []
  | (.int n, .none) :: r => (scrOf r).map (n :: ·)
  | _ => none
def scr (ns : List Int) : D := .dict (ns.map fun n => (.int n, .none))
theorem scrOf_scr : ∀ ns : List Int, scrOf (ns.map fun n => (PyData.int n, PyData.none)) = some ns
  | [] => rfl
  | n :: r => by rw [List.map_cons, scrOf, scrOf_scr r]; rfl
theorem rd_ex {H H' : Hp} (e : Ex H H') {a : Addr} {u : HO} (h : Rd H a u) : Rd H' a u := h.elim (fun h => .inl (e _ _ h)) fun ⟨o, h⟩ => .inr ⟨o, e _ _ h⟩
mutual
inductive DV (H : Hp) : V → D → Prop
  | non : DV H .non .none
  | bl (b : Bool) : DV H (.bl b) (.bool b)
  | int (i : Int) : DV H (.int i) (.int i)
  | str (x : Str) : DV H (.str x) (.str x)
  | lst {a : Addr} {xs : List V} {ds : List D} : H a = some (.lst xs) → xs.length ≤ sizeLine → DVs H xs ds → DV H (.ref a) (.list ds)
  | tup {a : Addr} {xs : List V} {ds : List D} : H a = some (.tup xs) → xs.length ≤ sizeLine → DVs H xs ds → DV H (.ref a) (.tuple ds)
  | scr {a : Addr} {kvs : List (D × D)} {ns : List Int} : scrOf kvs = some ns → Rd H a (.lst (ns.map V.int)) → ns.length ≤ sizeLine → DV H (.ref a) (.dict kvs)
inductive DVs (H : Hp) : List V → List D → Prop
  | nil : DVs H [] []
  | cons {v : V} {d : D} {vs : List V} {ds : List D} : DV H v d → DVs H vs ds → DVs H (v :: vs) (d :: ds)
end
mutual
theorem DV.mono {H H' : Hp} (e : Ex H H') : ∀ {v : V} {d : D}, DV H v d → DV H' v d
  | _, _, .non => .non
  | _, _, .bl b => .bl b
  | _, _, .int i => .int i
  | _, _, .str x => .str x
  | _, _, .lst h z hs => .lst (e _ _ h) z (DVs.mono e hs)
  | _, _, .tup h z hs => .tup (e _ _ h) z (DVs.mono e hs)
  | _, _, .scr k h z => .scr k (rd_ex e h) z
theorem DVs.mono {H H' : Hp} (e : Ex H H') : ∀ {vs : List V} {ds : List D}, DVs H vs ds → DVs H' vs ds
  | _, _, .nil => .nil
  | _, _, .cons h hs => .cons (DV.mono e h) (DVs.mono e hs)
end
theorem DVs.length {H : Hp} : ∀ {vs : List V} {ds : List D}, DVs H vs ds → vs.length = ds.length
  | _, _, .nil => rfl
  | _, _, .cons _ hs => by rw [List.length_cons, List.length_cons, DVs.length hs]
theorem DVs.get {H : Hp} : ∀ {vs : List V} {ds : List D} {i : Nat} {d : D}, DVs H vs ds → ds[i]? = some d → ∃ v, vs[i]? = some v ∧ DV H v d
  | _, _, _, _, .nil, e => by simp at e
  | _, _, 0, d, .cons h _, e => by simp at e; subst e; exact ⟨_, rfl, h⟩
  | _, _, i + 1, d, .cons _ hs, e => by
    obtain ⟨v, h1, h2⟩ := DVs.get (i := i) (d := d) hs (by simpa using e)
    exact ⟨v, by simpa using h1, h2⟩
theorem DVs.append {H : Hp} : ∀ {vs ws : List V} {ds es : List D}, DVs H vs ds → DVs H ws es → DVs H (vs ++ ws) (ds ++ es)
  | _, _, _, _, .nil, h => h
  | _, _, _, _, .cons h hs, k => .cons h (DVs.append hs k)
theorem DVs.drop {H : Hp} : ∀ (n : Nat) {vs : List V} {ds : List D}, DVs H vs ds → DVs H (vs.drop n) (ds.drop n)
  | 0, _, _, h => h
  | _ + 1, _, _, .nil => .nil
  | n + 1, _, _, .cons _ hs => DVs.drop n hs
theorem DVs.take {H : Hp} : ∀ (n : Nat) {vs : List V} {ds : List D}, DVs H vs ds → DVs H (vs.take n) (ds.take n)
  | 0, _, _, _ => .nil
  | _ + 1, _, _, .nil => .nil
  | n + 1, _, _, .cons h hs => .cons h (DVs.take n hs)
theorem DVs.set {H : Hp} {v : V} {d : D} (h : DV H v d) : ∀ {vs : List V} {ds : List D} (i : Nat), DVs H vs ds → DVs H (vs.set i v) (ds.set i d)
  | _, _, _, .nil => .nil
  | _, _, 0, .cons _ hs => .cons h hs
  | _, _, i + 1, .cons k hs => .cons k (DVs.set h i hs)
theorem DVs.dropLast {H : Hp} {vs : List V} {ds : List D} (h : DVs H vs ds) : DVs H vs.dropLast ds.dropLast := by
  rw [List.dropLast_eq_take, List.dropLast_eq_take, h.length]
  exact h.take _
theorem DVs.eraseIdx {H : Hp} : ∀ {vs : List V} {ds : List D} (i : Nat), DVs H vs ds → DVs H (vs.eraseIdx i) (ds.eraseIdx i)
  | _, _, _, .nil => .nil
  | _, _, 0, .cons _ hs => hs
  | _, _, i + 1, .cons k hs => .cons k (DVs.eraseIdx i hs)
theorem DVs.reverse {H : Hp} : ∀ {vs : List V} {ds : List D}, DVs H vs ds → DVs H vs.reverse ds.reverse
  | _, _, .nil => .nil
  | _, _, .cons h hs => by
    rw [List.reverse_cons, List.reverse_cons]
    exact (DVs.reverse hs).append (.cons h .nil)
theorem DVs.rep {H : Hp} {vs : List V} {ds : List D} (h : DVs H vs ds) : ∀ k : Nat, DVs H (List.replicate k vs).flatten (List.replicate k ds).flatten
  | 0 => .nil
  | k + 1 => by
    rw [List.replicate_succ, List.replicate_succ, List.flatten_cons, List.flatten_cons]
    exact h.append (DVs.rep h k)
theorem DVs.mem {H : Hp} : ∀ {vs : List V} {ds : List D} {v : V}, DVs H vs ds → v ∈ vs → ∃ d ∈ ds, DV H v d
  | _, _, _, .nil, e => by simp at e
  | _, _, v, .cons h hs, e => by
    rcases List.mem_cons.mp e with rfl | e
    · exact ⟨_, List.mem_cons_self, h⟩
    · obtain ⟨d, m, k⟩ := DVs.mem hs e
      exact ⟨d, List.mem_cons_of_mem _ m, k⟩
theorem DVs.ints {H : Hp} : ∀ {vs : List V} {ns : List Int}, DVs H vs (ns.map .int) → vs = ns.map V.int
  | _, [], .nil => rfl
  | _, _ :: _, .cons h hs => by
    cases h
    rw [List.map_cons, DVs.ints hs]
theorem DVs.of_ints {H : Hp} : ∀ (ns : List Int), DVs H (ns.map V.int) (ns.map .int)
  | [] => .nil
  | n :: r => .cons (.int n) (DVs.of_ints r)
theorem DVs.bools {H : Hp} : ∀ {vs : List V} {bs : List Bool}, DVs H vs (bs.map .bool) → vs = bs.map V.bl
  | _, [], .nil => rfl
  | _, _ :: _, .cons h hs => by
    cases h
    rw [List.map_cons, DVs.bools hs]
mutual
theorem DV.dp {K : PySem.W.Frag} {H : Hp} : ∀ {v : V} {d : D}, DV H v d → d.hasDict = false → Dp K H v d
  | _, _, .non, _ => .non
  | _, _, .bl b, _ => .bl b
  | _, _, .int i, _ => .int i
  | _, _, .str x, _ => .str x
  | _, _, .lst h _ hs, n => .lst (SqL.of h) (DVs.dp hs n)
  | _, _, .tup h _ hs, n => .tup (SqT.of h) (DVs.dp hs n)
  | _, _, .scr _ _ _, n => by cases n
theorem DVs.dp {K : PySem.W.Frag} {H : Hp} : ∀ {vs : List V} {ds : List D}, DVs H vs ds → PyData.hasDictAll ds = false → DpAll K H vs ds
  | _, _, .nil, _ => .nil
  | _, _, .cons h hs, n => by
    have n := Bool.or_eq_false_iff.mp (show (PyData.hasDict _ || PyData.hasDictAll _) = false from n)
    exact .cons (DV.dp h n.1) (DVs.dp hs n.2)
end

/-! ### slots -/
/-- what a slot holds: nothing that is known; data that stays; a list of its own; the list at an address of the caller's; a list of its own whose items are its own; dicts of its own -/
inductive W where
  | emp | sh (d : D) | ow (ds : List D) | pu (a : Addr) (ds : List D) | nest (ws : List W) | dk (kvs : List (Key × D)) | dt (kvs : List (List Key × D))
abbrev Env := List W
def KDs {κ : Type} (B : Hp) : List (κ × V) → List (κ × D) → Prop := Paired fun (p : κ × V) (q : κ × D) => p.1 = q.1 ∧ DV B p.2 q.2
mutual
inductive SR (B H : Hp) : V → W → List Addr → Prop
  | sh {v : V} {d : D} : DV B v d → SR B H v (.sh d) []
  | ow {a : Addr} {xs : List V} {ds : List D} : H a = some (.lst xs) → xs.length ≤ sizeLine → DVs B xs ds → SR B H (.ref a) (.ow ds) [a]
  | pu {a : Addr} {xs : List V} {ds : List D} : H a = some (.lst xs) → xs.length ≤ sizeLine → DVs B xs ds → SR B H (.ref a) (.pu a ds) [a]
  | nest {a : Addr} {xs : List V} {ws : List W} {A : List Addr} : H a = some (.lst xs) → xs.length ≤ sizeLine → SRs B H xs ws A → SR B H (.ref a) (.nest ws) (a :: A)
  | dk {a : Addr} {xs : List (Key × V)} {ds : List (Key × D)} : H a = some (.dK xs) → KDs B xs ds → SR B H (.ref a) (.dk ds) [a]
  | dt {a : Addr} {xs : List (List Key × V)} {ds : List (List Key × D)} : H a = some (.dT xs) → KDs B xs ds → SR B H (.ref a) (.dt ds) [a]
inductive SRs (B H : Hp) : List V → List W → List Addr → Prop
  | nil : SRs B H [] [] []
  | cons {v : V} {w : W} {A : List Addr} {vs : List V} {ws : List W} {O : List Addr} : SR B H v w A → SRs B H vs ws O → SRs B H (v :: vs) (w :: ws) (A ++ O)
end
theorem KDs.mono {κ : Type} {B B' : Hp} (e : Ex B B') {xs : List (κ × V)} {ds : List (κ × D)} (h : KDs B xs ds) : KDs B' xs ds := Paired.mapP h fun _ _ q => ⟨q.1, q.2.mono e⟩
mutual
theorem SR.mono {B B' H H' : Hp} (b : Ex B B') : ∀ {v : V} {w : W} {A : List Addr}, (∀ a ∈ A, ∀ o, H a = some o → H' a = some o) → SR B H v w A → SR B' H' v w A
  | _, _, _, _, .sh h => .sh (h.mono b)
  | _, _, _, k, .ow h z d => .ow (k _ List.mem_cons_self _ h) z (d.mono b)
  | _, _, _, k, .pu h z d => .pu (k _ List.mem_cons_self _ h) z (d.mono b)
  | _, _, _, k, .nest h z d => .nest (k _ List.mem_cons_self _ h) z (SRs.mono b (fun a m => k a (List.mem_cons_of_mem _ m)) d)
  | _, _, _, k, .dk h d => .dk (k _ List.mem_cons_self _ h) (d.mono b)
  | _, _, _, k, .dt h d => .dt (k _ List.mem_cons_self _ h) (d.mono b)
theorem SRs.mono {B B' H H' : Hp} (b : Ex B B') : ∀ {vs : List V} {ws : List W} {A : List Addr}, (∀ a ∈ A, ∀ o, H a = some o → H' a = some o) → SRs B H vs ws A → SRs B' H' vs ws A
  | _, _, _, _, .nil => .nil
  | _, _, _, k, .cons h hs => .cons (SR.mono b (fun a m => k a (List.mem_append_left _ m)) h) (SRs.mono b (fun a m => k a (List.mem_append_right _ m)) hs)
end
mutual
theorem SR.there {B H : Hp} : ∀ {v : V} {w : W} {A : List Addr}, SR B H v w A → ∀ a ∈ A, ∃ o, H a = some o
  | _, _, _, .sh h, a, m => by simp at m
  | _, _, _, .ow h z d, a, m => by rw [List.mem_singleton.mp m]; exact ⟨_, h⟩
  | _, _, _, .pu h z d, a, m => by rw [List.mem_singleton.mp m]; exact ⟨_, h⟩
  | _, _, _, .nest h z d, a, m => by
    rcases List.mem_cons.mp m with e | m
    · rw [e]; exact ⟨_, h⟩
    · exact SRs.there d a m
  | _, _, _, .dk h d, a, m => by rw [List.mem_singleton.mp m]; exact ⟨_, h⟩
  | _, _, _, .dt h d, a, m => by rw [List.mem_singleton.mp m]; exact ⟨_, h⟩
theorem SRs.there {B H : Hp} : ∀ {vs : List V} {ws : List W} {A : List Addr}, SRs B H vs ws A → ∀ a ∈ A, ∃ o, H a = some o
  | _, _, _, .nil, a, m => by simp at m
  | _, _, _, .cons h hs, a, m => by
    rcases List.mem_append.mp m with m | m
    · exact SR.there h a m
    · exact SRs.there hs a m
end
theorem SRs.length {B H : Hp} : ∀ {vs : List V} {ws : List W} {A : List Addr}, SRs B H vs ws A → vs.length = ws.length
  | _, _, _, .nil => rfl
  | _, _, _, .cons _ hs => by rw [List.length_cons, List.length_cons, SRs.length hs]
inductive RL (B H : Hp) : List (Option V) → Env → List Addr → Prop
  | nil : RL B H [] [] []
  | emp {x : Option V} {σ : List (Option V)} {env : Env} {O : List Addr} : RL B H σ env O → RL B H (x :: σ) (.emp :: env) O
  | cons {v : V} {w : W} {A : List Addr} {σ : List (Option V)} {env : Env} {O : List Addr} : SR B H v w A → RL B H σ env O → RL B H (some v :: σ) (w :: env) (A ++ O)
structure Rep (B H : Hp) (σ : List (Option V)) (env : Env) (O : List Addr) : Prop where
  rl : RL B H σ env O
  nd : O.Nodup
  fr : ∀ a ∈ O, B a = none
  sub : Ex B H
/-- the heap grows: what is not owned stays; the new part of the base is new, or was owned -/
structure Gr (B H : Hp) (O : List Addr) (B' H' : Hp) (O' : List Addr) : Prop where
  base : Ex B B'
  keep : ∀ a o, H a = some o → a ∉ O → H' a = some o
  new : ∀ a, B' a ≠ none → B a ≠ none ∨ a ∈ O ∨ H a = none
  own : ∀ a ∈ O', a ∈ O ∨ H a = none
theorem Gr.refl {B H : Hp} {O : List Addr} : Gr B H O B H O := ⟨Ex.refl _, fun _ _ h _ => h, fun _ h => .inl h, fun _ h => .inl h⟩
theorem Gr.trans {B H B1 H1 B2 H2 : Hp} {O O1 O2 : List Addr} (x : Gr B H O B1 H1 O1) (y : Gr B1 H1 O1 B2 H2 O2) : Gr B H O B2 H2 O2 := by
  have back : ∀ a, H1 a = none → a ∈ O ∨ H a = none := fun a h => by
    by_cases m : a ∈ O
    · exact .inl m
    · cases q : H a with
      | none => exact .inr rfl
      | some o =>
        rw [x.keep a o q m] at h
        cases h
  refine ⟨x.base.trans y.base, fun a o h n => y.keep a o (x.keep a o h n) fun m => ?_, fun a h => ?_, fun a m => ?_⟩
  · rcases x.own a m with z | z
    · exact n z
    · rw [z] at h; cases h
  · rcases y.new a h with z | z | z
    · exact x.new a z
    · exact .inr (x.own a z)
    · exact .inr (back a z)
  · rcases y.own a m with z | z
    · exact x.own a z
    · exact back a z
/-- fewer owned ones -/
theorem Gr.less {B H B' H' : Hp} {O O' O'' : List Addr} (x : Gr B H O B' H' O') (h : ∀ a ∈ O'', a ∈ O') : Gr B H O B' H' O'' := ⟨x.base, x.keep, x.new, fun a m => x.own a (h a m)⟩

section
variable {B H B' H' : Hp} {σ : List (Option V)} {env : Env} {O : List Addr}
theorem RL.there : ∀ {σ : List (Option V)} {env : Env} {O : List Addr}, RL B H σ env O → ∀ a ∈ O, ∃ o, H a = some o
  | _, _, _, .nil, a, m => by simp at m
  | _, _, _, .emp r, a, m => RL.there r a m
  | _, _, _, .cons h r, a, m => by
    rcases List.mem_append.mp m with m | m
    · exact h.there a m
    · exact RL.there r a m
theorem RL.mono (b : Ex B B') : ∀ {σ : List (Option V)} {env : Env} {O : List Addr}, (∀ a ∈ O, ∀ o, H a = some o → H' a = some o) → RL B H σ env O → RL B' H' σ env O
  | _, _, _, _, .nil => .nil
  | _, _, _, k, .emp r => .emp (RL.mono b k r)
  | _, _, _, k, .cons h r => .cons (h.mono b fun a m => k a (List.mem_append_left _ m)) (RL.mono b (fun a m => k a (List.mem_append_right _ m)) r)
theorem RL.len : ∀ {σ : List (Option V)} {env : Env} {O : List Addr}, RL B H σ env O → σ.length = env.length
  | _, _, _, .nil => rfl
  | _, _, _, .emp r => by rw [List.length_cons, List.length_cons, RL.len r]
  | _, _, _, .cons _ r => by rw [List.length_cons, List.length_cons, RL.len r]
theorem Rep.there (r : Rep B H σ env O) {a : Addr} (m : a ∈ O) : ∃ o, H a = some o := r.rl.there a m
/-- pure growth -/
structure Gp (B H B' H' : Hp) : Prop where
  base : Ex B B'
  keep : Ex H H'
  new : ∀ a, B' a ≠ none → B a ≠ none ∨ H a = none
  sub : Ex B' H'
theorem Gp.refl (s : Ex B H) : Gp B H B H := ⟨Ex.refl _, Ex.refl _, fun _ h => .inl h, s⟩
theorem Gp.trans {B1 H1 B2 H2 : Hp} (x : Gp B H B1 H1) (y : Gp B1 H1 B2 H2) : Gp B H B2 H2 := by
  refine ⟨x.base.trans y.base, x.keep.trans y.keep, fun a h => ?_, y.sub⟩
  rcases y.new a h with z | z
  · exact x.new a z
  · exact .inr (Evl.fresh_back x.keep z)
theorem Gp.gr (g : Gp B H B' H') : Gr B H O B' H' O := ⟨g.base, fun a o h _ => g.keep a o h, fun a h => (g.new a h).elim .inl fun z => .inr (.inr z), fun _ h => .inl h⟩
theorem Rep.grow (r : Rep B H σ env O) (g : Gp B H B' H') : Rep B' H' σ env O :=
  ⟨r.rl.mono g.base fun a _ o h => g.keep a o h, r.nd, (fun a m => by
    cases q : B' a with
    | none => rfl
    | some o =>
      obtain ⟨u, hu⟩ := r.there m
      rcases g.new a (by rw [q]; simp) with z | z
      · rw [r.fr a m] at z; exact absurd rfl z
      · rw [z] at hu; cases hu), g.sub⟩
/-- a new object, put into the base -/
theorem Gp.new1 {p : Addr} {o : HO} (s : Ex B H) (h : H p = none) : Gp B H (upd B p o) (upd H p o) := by
  have hb : B p = none := Evl.fresh_back s h
  refine ⟨Ex.new hb, Ex.new h, fun a n => ?_, fun a u e => ?_⟩
  · by_cases e : a = p
    · subst e; exact .inr h
    · rw [upd_ne e] at n; exact .inl n
  · by_cases z : a = p
    · subst z; rw [upd_same] at e ⊢; exact e
    · rw [upd_ne z] at e ⊢; exact s a u e
/-- a new object, outside the base -/
theorem Gp.new0 {p : Addr} {o : HO} (s : Ex B H) (h : H p = none) : Gp B H B (upd H p o) :=
  ⟨Ex.refl _, Ex.new h, fun _ n => .inl n, s.trans (Ex.new h)⟩
end

/-! ### what is at a slot -/
def get : Env → Nat → W
  | [], _ => .emp
  | w :: _, 0 => w
  | _ :: r, n + 1 => get r n
def put : Env → Nat → W → Env
  | [], _, _ => []
  | _ :: r, 0, w => w :: r
  | x :: r, n + 1, w => x :: put r n w
@[simp] theorem get_nil (n : Nat) : get [] n = .emp := by cases n <;> rfl
@[simp] theorem get_zero (w : W) (r : Env) : get (w :: r) 0 = w := nrfl rfl
@[simp] theorem get_succ (w : W) (r : Env) (n : Nat) : get (w :: r) (n + 1) = get r n := nrfl rfl
@[simp] theorem put_zero (x w : W) (r : Env) : put (x :: r) 0 w = w :: r := nrfl rfl
@[simp] theorem put_succ (x w : W) (r : Env) (n : Nat) : put (x :: r) (n + 1) w = x :: put r n w := nrfl rfl
section
variable {B H B' H' : Hp} {σ : List (Option V)} {env : Env} {O : List Addr}
/-- what stands at a slot, and the rest without it -/
theorem RL.take : ∀ {i : Nat} {σ : List (Option V)} {env : Env} {O : List Addr}, RL B H σ env O → O.Nodup → get env i ≠ .emp →
    ∃ v A O', σ[i]? = some (some v) ∧ SR B H v (get env i) A ∧ RL B H σ (put env i .emp) O' ∧ A.Nodup ∧ O'.Nodup ∧ (∀ a ∈ A, a ∈ O ∧ a ∉ O') ∧ ∀ a ∈ O', a ∈ O
  | i, _, _, _, .nil, _, e => absurd (get_nil i) e
  | 0, _, _, _, .emp r, _, e => absurd rfl e
  | 0, _, _, _, .cons h r, n, _ => by
    obtain ⟨n1, n2, n3⟩ := List.nodup_append.mp n
    exact ⟨_, _, _, rfl, h, .emp r, n1, n2, fun a m => ⟨List.mem_append_left _ m, fun q => n3 a m a q rfl⟩, fun a m => List.mem_append_right _ m⟩
  | i + 1, _, _, _, .emp r, n, e => let ⟨v, A, O', h1, h2, h3, h4⟩ := RL.take (i := i) r n e; ⟨v, A, O', h1, h2, .emp h3, h4⟩
  | i + 1, _, _, _, .cons h r, n, e => by
    obtain ⟨n1, n2, n3⟩ := List.nodup_append.mp n
    obtain ⟨v, A, O', h1, h2, h3, h4, h5, h6, h7⟩ := RL.take (i := i) r n2 e
    refine ⟨v, A, _, h1, h2, .cons h h3, h4, List.nodup_append.mpr ⟨n1, h5, fun a m b q z => n3 a m b (h7 b q) z⟩, fun a m => ⟨List.mem_append_right _ (h6 a m).1, fun q => ?_⟩, fun a m => ?_⟩
    · rcases List.mem_append.mp q with q | q
      · exact n3 a q a (h6 a m).1 rfl
      · exact (h6 a m).2 q
    · rcases List.mem_append.mp m with m | m
      · exact List.mem_append_left _ m
      · exact List.mem_append_right _ (h7 a m)
/-- a slot is filled -/
theorem RL.fill {v : V} {w : W} {A : List Addr} (h : SR B H v w A) (nA : A.Nodup) : ∀ {i : Nat} {σ : List (Option V)} {env : Env} {O : List Addr}, RL B H σ env O → O.Nodup → (∀ a ∈ A, a ∉ O) →
    ∃ O', RL B H (σ.set i (some v)) (put env i w) O' ∧ O'.Nodup ∧ ∀ b ∈ O', b ∈ A ∨ b ∈ O
  | i, _, _, _, .nil, _, _ => ⟨[], by cases i <;> exact .nil, List.nodup_nil, fun _ m => by simp at m⟩
  | 0, _, _, _, .emp r, n, m => ⟨_, .cons h r, List.nodup_append.mpr ⟨nA, n, fun a p b q z => m a p (z ▸ q)⟩, fun b q => List.mem_append.mp q⟩
  | 0, _, _, _, .cons _ r, n, m => ⟨_, .cons h r, List.nodup_append.mpr ⟨nA, (List.nodup_append.mp n).2.1, fun a p b q z => m a p (List.mem_append_right _ (z ▸ q))⟩, fun b q => (List.mem_append.mp q).imp id (List.mem_append_right _)⟩
  | i + 1, _, _, _, .emp r, n, m => let ⟨O', h1, h2, h3⟩ := RL.fill h nA (i := i) r n m; ⟨O', .emp h1, h2, h3⟩
  | i + 1, _, _, _, .cons k r, n, m => by
    obtain ⟨n1, n2, n3⟩ := List.nodup_append.mp n
    obtain ⟨O', h1, h2, h3⟩ := RL.fill h nA (i := i) r n2 (fun a p q => m a p (List.mem_append_right _ q))
    refine ⟨_, .cons k h1, List.nodup_append.mpr ⟨n1, h2, fun a p b q z => ?_⟩, fun b x => ?_⟩
    · subst z
      rcases h3 a q with e | e
      · exact m a e (List.mem_append_left _ p)
      · exact n3 a p a e rfl
    · rcases List.mem_append.mp x with x | x
      · exact .inr (List.mem_append_left _ x)
      · exact (h3 b x).imp id (List.mem_append_right _)
theorem RL.get {i : Nat} (r : RL B H σ env O) (n : O.Nodup) (e : Z.get env i ≠ .emp) : ∃ v A, σ[i]? = some (some v) ∧ SR B H v (Z.get env i) A ∧ ∀ a ∈ A, a ∈ O :=
  let ⟨v, A, _, h1, h2, _, _, _, h3, _⟩ := RL.take (i := i) r n e
  ⟨v, A, h1, h2, fun a m => (h3 a m).1⟩
/-- a slot is given up -/
theorem RL.drop1 : ∀ {i : Nat} {σ : List (Option V)} {env : Env} {O : List Addr}, RL B H σ env O → ∃ O', RL B H σ (put env i .emp) O' ∧ O'.Sublist O
  | i, _, _, _, .nil => ⟨[], .nil, List.Sublist.refl _⟩
  | 0, _, _, _, .emp r => ⟨_, .emp r, List.Sublist.refl _⟩
  | 0, _, _, _, .cons h r => ⟨_, .emp r, List.sublist_append_right _ _⟩
  | i + 1, _, _, _, .emp r => let ⟨O', h1, h2⟩ := RL.drop1 (i := i) r; ⟨O', .emp h1, h2⟩
  | i + 1, _, _, _, .cons h r => let ⟨O', h1, h2⟩ := RL.drop1 (i := i) r; ⟨_, .cons h h1, List.Sublist.append_left h2 _⟩
end
theorem set_same {σ : List (Option V)} {i : Nat} {v : V} (h : σ[i]? = some (some v)) : σ.set i (some v) = σ := by
  apply List.ext_getElem?
  intro j
  by_cases e : i = j
  · subst e
    rw [List.getElem?_set_self (List.getElem?_eq_some_iff.mp h).1, h]
  · rw [List.getElem?_set_ne e]
theorem put_put (env : Env) (i : Nat) (w w' : W) : put (put env i w) i w' = put env i w' := by
  induction env generalizing i with
  | nil => rfl
  | cons x r ih => cases i with
    | zero => rfl
    | succ n => rw [put_succ, put_succ, put_succ, ih]
end Z

set_option Elab.async false
set_option linter.all false
set_option maxRecDepth 100000
set_option maxHeartbeats 4000000
/-! Z2: what readings compute, over slots: operands, values, tests, statements; the rules. -/
namespace Z
open PySem PySem.Spec PyProof.Rows L2
open Evl (Ex)

/-! ### short words for partial steps -/
def bd {α β : Type} (x : Option (α × Env)) (f : α → Env → Option β) : Option β := match x with
  | some (a, e) => f a e
  | none => none
@[simp] theorem bd_some {α β : Type} (a : α) (e : Env) (f : α → Env → Option β) : bd (some (a, e)) f = f a e := nrfl rfl
@[simp] theorem bd_none {α β : Type} (f : α → Env → Option β) : bd (none : Option (α × Env)) f = none := nrfl rfl
def bo {α β : Type} (x : Option α) (f : α → Option β) : Option β := match x with
  | some a => f a
  | none => none
@[simp] theorem bo_some {α β : Type} (a : α) (f : α → Option β) : bo (some a) f = f a := nrfl rfl
@[simp] theorem bo_none {α β : Type} (f : α → Option β) : bo (none : Option α) f = none := nrfl rfl
theorem bd_inv {α β : Type} {x : Option (α × Env)} {f : α → Env → Option β} {b : β} (h : bd x f = some b) : ∃ a e, x = some (a, e) ∧ f a e = some b := by
  cases x with
  | none => cases h
  | some p => exact ⟨p.1, p.2, rfl, h⟩
theorem bo_inv {α β : Type} {x : Option α} {f : α → Option β} {b : β} (h : bo x f = some b) : ∃ a, x = some a ∧ f a = some b := by
  cases x with
  | none => cases h
  | some p => exact ⟨p, rfl, h⟩

/-! ### results -/
/-- a value as told by w, its own addresses A outside O -/
structure WR (B H : Hp) (O : List Addr) (v : V) (w : W) (A : List Addr) : Prop where
  sr : SR B H v w A
  nd : A.Nodup
  dj : ∀ a ∈ A, a ∉ O
  fr : ∀ a ∈ A, B a = none
/-- .. new since H -/
structure NR (H B' H' : Hp) (v : V) (w : W) (A : List Addr) : Prop where
  sr : SR B' H' v w A
  nd : A.Nodup
  new : ∀ a ∈ A, H a = none ∧ B' a = none
inductive Opd where
  | val (d : D) | slot (i : Nat)
/-- an item of a nest -/
def wI : W → Option D
  | .sh d => some d
  | .ow ds => some (.list ds)
  | _ => none
def wIs : List W → Option (List D)
  | [] => some []
  | w :: ws => bo (wI w) fun d => bo (wIs ws) fun ds => some (d :: ds)
def wD : W → Option D
  | .sh d => some d
  | .ow ds => some (.list ds)
  | .pu _ ds => some (.list ds)
  | .nest ws => bo (wIs ws) fun ds => some (.list ds)
  | _ => none
@[simp] theorem wD_sh (d : D) : wD (.sh d) = some d := nrfl rfl
@[simp] theorem wD_ow (d : List D) : wD (.ow d) = some (.list d) := nrfl rfl
@[simp] theorem wD_pu (a : Addr) (d : List D) : wD (.pu a d) = some (.list d) := nrfl rfl
@[simp] theorem wD_nest (ws : List W) : wD (.nest ws) = bo (wIs ws) fun ds => some (.list ds) := nrfl rfl
@[simp] theorem wI_sh (d : D) : wI (.sh d) = some d := nrfl rfl
@[simp] theorem wI_ow (d : List D) : wI (.ow d) = some (.list d) := nrfl rfl
@[simp] theorem wIs_nil : wIs [] = some [] := nrfl rfl
@[simp] theorem wIs_cons (w : W) (ws : List W) : wIs (w :: ws) = bo (wI w) fun d => bo (wIs ws) fun ds => some (d :: ds) := nrfl rfl
/-- .. but no nest -/
def wF : W → Option D
  | .sh d => some d
  | .ow ds => some (.list ds)
  | .pu _ ds => some (.list ds)
  | _ => none
@[simp] theorem wF_sh (d : D) : wF (.sh d) = some d := nrfl rfl
@[simp] theorem wF_ow (d : List D) : wF (.ow d) = some (.list d) := nrfl rfl
@[simp] theorem wF_pu (a : Addr) (d : List D) : wF (.pu a d) = some (.list d) := nrfl rfl
def Opd.look (o : Opd) (env : Env) : Option D := match o with
  | .val d => some d
  | .slot i => wF (get env i)
@[simp] theorem look_val (d : D) (env : Env) : Opd.look (.val d) env = some d := nrfl rfl
@[simp] theorem look_slot (i : Nat) (env : Env) : Opd.look (.slot i) env = wF (get env i) := nrfl rfl
def OpOk (B : Hp) (σ : List (Option V)) (v : V) : Opd → Prop
  | .val d => DV B v d
  | .slot i => σ[i]? = some (some v)
/-- data that is read: in the base, or a list whose items are; or in the heap alone (then nothing of it may be kept) -/
def BV (B H : Hp) (v : V) (d : D) : Prop := DV B v d ∨ ∃ a xs ds, v = .ref a ∧ d = .list ds ∧ H a = some (.lst xs) ∧ xs.length ≤ sizeLine ∧ DVs B xs ds
theorem BV.dv {B H : Hp} {v : V} {d : D} (h : BV B H v d) (s : Ex B H) : DV H v d := by
  rcases h with h | ⟨a, xs, ds, rfl, rfl, h, z, k⟩
  · exact h.mono s
  · exact .lst h z (k.mono s)
/-- a list that is read -/
theorem BV.list {B H : Hp} {v : V} {ds : List D} (h : BV B H v (.list ds)) (s : Ex B H) : ∃ a xs, v = .ref a ∧ H a = some (.lst xs) ∧ xs.length ≤ sizeLine ∧ DVs B xs ds := by
  rcases h with h | ⟨a, xs, ds, rfl, e, h, z, k⟩
  · cases h with
    | lst h z k => exact ⟨_, _, rfl, s _ _ h, z, k⟩
  · cases e; exact ⟨a, xs, rfl, h, z, k⟩
theorem BV.tuple {B H : Hp} {v : V} {ds : List D} (h : BV B H v (.tuple ds)) (s : Ex B H) : ∃ a xs, v = .ref a ∧ H a = some (.tup xs) ∧ xs.length ≤ sizeLine ∧ DVs B xs ds := by
  rcases h with h | ⟨a, xs, ds, rfl, e, h, z, k⟩
  · cases h with
    | tup h z k => exact ⟨_, _, rfl, s _ _ h, z, k⟩
  · cases e
theorem BV.int {B H : Hp} {v : V} {i : Int} (h : BV B H v (.int i)) : v = .int i := by
  rcases h with h | ⟨a, xs, ds, rfl, e, h, z, k⟩
  · cases h; rfl
  · cases e
theorem BV.bool {B H : Hp} {v : V} {i : Bool} (h : BV B H v (.bool i)) : v = .bl i := by
  rcases h with h | ⟨a, xs, ds, rfl, e, h, z, k⟩
  · cases h; rfl
  · cases e
theorem BV.str {B H : Hp} {v : V} {i : Str} (h : BV B H v (.str i)) : v = .str i := by
  rcases h with h | ⟨a, xs, ds, rfl, e, h, z, k⟩
  · cases h; rfl
  · cases e
theorem BV.none {B H : Hp} {v : V} (h : BV B H v .none) : v = .non := by
  rcases h with h | ⟨a, xs, ds, rfl, e, h, z, k⟩
  · cases h; rfl
  · cases e
/-- owned data laid into a base -/
def lay (B H : Hp) (A : List Addr) : Hp := fun b => if b ∈ A then H b else B b
theorem lay_in {B H : Hp} {A : List Addr} {b : Addr} (h : b ∈ A) : lay B H A b = H b := if_pos h
theorem lay_out {B H : Hp} {A : List Addr} {b : Addr} (h : b ∉ A) : lay B H A b = B b := if_neg h
theorem lay_ex {B H : Hp} {A : List Addr} (h : ∀ a ∈ A, B a = none) : Ex B (lay B H A) := fun a o e => by
  by_cases m : a ∈ A
  · rw [h a m] at e; cases e
  · rw [lay_out m]; exact e
theorem SR.laid {B B' H : Hp} (x : Ex B B') {v : V} {w : W} {A : List Addr} (h : SR B H v w A) (k : ∀ a ∈ A, B' a = H a) : (∀ d, wI w = some d → DV B' v d) := fun d e => by
  cases h with
  | sh h => cases e; exact h.mono x
  | ow h z c => cases e; exact .lst (by rw [k _ (by simp)]; exact h) z (c.mono x)
  | pu h z c => cases e
  | nest h z c => cases e
  | dk h c => cases e
  | dt h c => cases e
theorem SRs.laid {B B' H : Hp} (x : Ex B B') : ∀ {vs : List V} {ws : List W} {A : List Addr}, SRs B H vs ws A → (∀ a ∈ A, B' a = H a) → ∀ ds, wIs ws = some ds → DVs B' vs ds
  | _, _, _, .nil, _, ds, e => by cases e; exact .nil
  | _, _, _, .cons h hs, k, ds, e => by
    obtain ⟨d, h1, e⟩ := bo_inv e
    obtain ⟨es, h2, e⟩ := bo_inv e
    cases e
    exact .cons (h.laid x (fun a m => k a (List.mem_append_left _ m)) d h1) (SRs.laid x hs (fun a m => k a (List.mem_append_right _ m)) es h2)
theorem SR.data {B B' H : Hp} (x : Ex B B') {v : V} {w : W} {A : List Addr} (h : SR B H v w A) (k : ∀ a ∈ A, B' a = H a) {d : D} (e : wD w = some d) : DV B' v d := by
  cases h with
  | sh h => cases e; exact h.mono x
  | ow h z c => cases e; exact .lst (by rw [k _ (by simp)]; exact h) z (c.mono x)
  | pu h z c => cases e; exact .lst (by rw [k _ (by simp)]; exact h) z (c.mono x)
  | nest h z c =>
    obtain ⟨ds, h1, e⟩ := bo_inv e
    cases e
    exact .lst (by rw [k _ (by simp)]; exact h) z (SRs.laid x c (fun a m => k a (List.mem_cons_of_mem _ m)) ds h1)
  | dk h c => cases e
  | dt h c => cases e

section
variable {B H B' H' : Hp} {σ : List (Option V)} {env : Env} {O : List Addr}
/-- a slot's data, in the heap as a whole -/
theorem Rep.data (r : Rep B H σ env O) {i : Nat} {d : D} (e : wD (get env i) = some d) : ∃ v, σ[i]? = some (some v) ∧ DV H v d := by
  obtain ⟨v, A, h1, h2, _⟩ := r.rl.get r.nd (i := i) (by intro z; rw [z] at e; cases e)
  exact ⟨v, h1, h2.data r.sub (fun _ _ => rfl) e⟩
theorem Rep.bv (r : Rep B H σ env O) {i : Nat} {d : D} {v : V} (e : wF (get env i) = some d) (k : σ[i]? = some (some v)) : BV B H v d := by
  obtain ⟨u, A, h1, h2, _⟩ := r.rl.get r.nd (i := i) (by intro z; rw [z] at e; cases e)
  rw [h1] at k; cases k
  cases q : get env i with
  | sh c => rw [q] at h2 e; cases e; cases h2 with | sh h => exact .inl h
  | ow c => rw [q] at h2 e; cases e; cases h2 with | ow h z k => exact .inr ⟨_, _, _, rfl, rfl, h, z, k⟩
  | pu b c => rw [q] at h2 e; cases e; cases h2 with | pu h z k => exact .inr ⟨_, _, _, rfl, rfl, h, z, k⟩
  | nest ws => rw [q] at e; cases e
  | emp => rw [q] at e; cases e
  | dk c => rw [q] at e; cases e
  | dt c => rw [q] at e; cases e
theorem OpOk.bv {v : V} {o : Opd} {d : D} (k : OpOk B σ v o) (r : Rep B H σ env O) (h : o.look env = some d) : BV B H v d := by
  cases o with
  | val e => cases h; exact .inl k
  | slot i => exact r.bv h k
theorem OpOk.mono {v : V} {o : Opd} (k : OpOk B σ v o) (e : Ex B B') : OpOk B' σ v o := by
  cases o with
  | val d => exact DV.mono e k
  | slot i => exact k
theorem NR.wr {v : V} {w : W} {A : List Addr} (r : Rep B H σ env O) (n : NR H B' H' v w A) : WR B' H' O v w A :=
  ⟨n.sr, n.nd, (fun a m q => by
    obtain ⟨o, h⟩ := r.there q
    rw [(n.new a m).1] at h; cases h), fun a m => (n.new a m).2⟩
theorem NR.gr {v : V} {w : W} {A : List Addr} (g : Gp B H B' H') (n : NR H B' H' v w A) : Gr B H O B' H' (A ++ O) := by
  refine ⟨g.base, fun a o h _ => g.keep a o h, fun a h => (g.new a h).elim .inl fun z => .inr (.inr z), fun a m => ?_⟩
  rcases List.mem_append.mp m with m | m
  · exact .inr (n.new a m).1
  · exact .inl m
/-- a value is laid into the base -/
theorem WR.freeze {v : V} {w : W} {A : List Addr} {d : D} (r : Rep B H σ env O) (k : WR B H O v w A) (e : wD w = some d) : ∃ B', Gr B H (A ++ O) B' H O ∧ Rep B' H σ env O ∧ DV B' v d := by
  have x : Ex B (lay B H A) := lay_ex k.fr
  refine ⟨lay B H A, ⟨x, fun _ _ h _ => h, fun b n => ?_, fun b m => .inl (List.mem_append_right _ m)⟩, ⟨r.rl.mono x fun _ _ _ h => h, r.nd, fun b m => ?_, fun b u q => ?_⟩, k.sr.data x (fun a m => lay_in m) e⟩
  · by_cases m : b ∈ A
    · exact .inr (.inl (List.mem_append_left _ m))
    · rw [lay_out m] at n; exact .inl n
  · rw [lay_out (fun z => k.dj b z m)]; exact r.fr b m
  · by_cases m : b ∈ A
    · rw [lay_in m] at q; exact q
    · rw [lay_out m] at q; exact r.sub b u q
/-- what a slot holds is taken out -/
theorem Rep.take {i : Nat} (r : Rep B H σ env O) (e : get env i ≠ .emp) :
    ∃ v A O', σ[i]? = some (some v) ∧ WR B H O' v (get env i) A ∧ Rep B H σ (put env i .emp) O' ∧ (∀ a ∈ A, a ∈ O) ∧ ∀ a ∈ O', a ∈ O := by
  obtain ⟨v, A, O', h1, h2, h3, h4, h5, h6, h7⟩ := r.rl.take r.nd e
  exact ⟨v, A, O', h1, ⟨h2, h4, fun a m => (h6 a m).2, fun a m => r.fr a (h6 a m).1⟩, ⟨h3, h5, fun a m => r.fr a (h7 a m), r.sub⟩, fun a m => (h6 a m).1, h7⟩
/-- a slot is given up -/
theorem Rep.drop (r : Rep B H σ env O) (i : Nat) : ∃ O', Rep B H σ (put env i .emp) O' ∧ ∀ a ∈ O', a ∈ O := by
  obtain ⟨O', h1, h2⟩ := r.rl.drop1 (i := i)
  exact ⟨O', ⟨h1, r.nd.sublist h2, fun a m => r.fr a (h2.subset m), r.sub⟩, fun a m => h2.subset m⟩
/-- a value is stored -/
theorem Rep.store {v : V} {w : W} {A : List Addr} (r : Rep B H σ env O) (k : WR B H O v w A) (i : Nat) : ∃ O', Rep B H (σ.set i (some v)) (put env i w) O' ∧ ∀ a ∈ O', a ∈ A ++ O := by
  obtain ⟨O', f1, f2, f3⟩ := RL.fill k.sr k.nd (i := i) r.rl r.nd k.dj
  exact ⟨O', ⟨f1, f2, fun b m => (f3 b m).elim (k.fr b) (r.fr b), r.sub⟩, fun b m => List.mem_append.mpr (f3 b m)⟩
theorem Rep.storeD {v : V} {d : D} (r : Rep B H σ env O) (k : DV B v d) (i : Nat) : ∃ O', Rep B H (σ.set i (some v)) (put env i (.sh d)) O' ∧ ∀ a ∈ O', a ∈ O := by
  obtain ⟨O', h1, h2⟩ := r.store ⟨.sh k, List.nodup_nil, fun _ m => by simp at m, fun _ m => by simp at m⟩ i
  exact ⟨O', h1, fun a m => by simpa using h2 a m⟩
/-- a slot is laid into the base -/
theorem Rep.freeze {i : Nat} {d : D} (r : Rep B H σ env O) (e : wD (get env i) = some d) :
    ∃ B' O' v, Gr B H O B' H O' ∧ Rep B' H σ (put env i (.sh d)) O' ∧ σ[i]? = some (some v) ∧ DV B' v d := by
  obtain ⟨v, A, O', h1, h2, h3, h4, h5⟩ := r.take (i := i) (by intro z; rw [z] at e; cases e)
  obtain ⟨B', g, r', k⟩ := h2.freeze h3 e
  obtain ⟨O2, r2, s2⟩ := r'.storeD k i
  rw [set_same h1, put_put] at r2
  refine ⟨B', O2, v, ⟨g.base, fun a o h n => h, fun a n => ?_, fun a m => .inl (h5 a (s2 a m))⟩, r2, h1, k⟩
  rcases g.new a n with z | z | z
  · exact .inl z
  · exact .inr (.inl ((List.mem_append.mp z).elim (h4 a) (h5 a)))
  · exact .inr (.inr z)
/-- the object of a slot is changed -/
theorem Rep.change {i : Nat} {v : V} {w w' : W} {p : Addr} {o : HO} {A A' O' : List Addr} (r : Rep B H σ env O) (hv : σ[i]? = some (some v)) (k : WR B H O' v w A) (r' : Rep B H σ (put env i .emp) O') (hA : ∀ a ∈ A, a ∈ O) (hO : ∀ a ∈ O', a ∈ O) (hp : p ∈ A)
    (n : SR B (upd H p o) v w' A') (nd : A'.Nodup) (hs : ∀ a ∈ A', a ∈ A) : Gr B H O B (upd H p o) O ∧ ∃ O2, Rep B (upd H p o) σ (put env i w') O2 ∧ ∀ b ∈ O2, b ∈ O := by
  have hb : B p = none := k.fr p hp
  have r2 : Rep B (upd H p o) σ (put env i .emp) O' := ⟨r'.rl.mono (Ex.refl _) fun a m u h => by rw [upd_ne (fun z => k.dj p hp (by rw [← z]; exact m))]; exact h, r'.nd, r'.fr, fun a u h => by
    rw [upd_ne (fun z => by rw [z, hb] at h; cases h)]; exact r'.sub a u h⟩
  obtain ⟨O2, r3, s3⟩ := r2.store (w := w') ⟨n, nd, fun a m => k.dj a (hs a m), fun a m => k.fr a (hs a m)⟩ i
  rw [set_same hv, put_put] at r3
  refine ⟨⟨Ex.refl _, fun a u h z => ?_, fun a h => .inl h, fun a m => .inl m⟩, O2, r3, fun b m => ?_⟩
  · rw [upd_ne (fun q => z (by rw [q]; exact hA p hp))]; exact h
  · rcases List.mem_append.mp (s3 b m) with m | m
    · exact hA b (hs b m)
    · exact hO b m
end

/-! ### what a reading computes -/
def GO (t : TE) (f : Env → Option (Opd × Env)) : Prop := ∀ B H O σ env, Rep B H σ env O → ∀ o env', f env = some (o, env') → ∀ Q : VK, (∀ v B' H' O', Gr B H O B' H' O' → Rep B' H' σ env' O' → OpOk B' σ v o → Q v H') → t σ H Q
def GD (t : TE) (f : Env → Option (D × Env)) : Prop := ∀ B H O σ env, Rep B H σ env O → ∀ d env', f env = some (d, env') → ∀ Q : VK, (∀ v B' H' O', Gr B H O B' H' O' → Rep B' H' σ env' O' → DV B' v d → Q v H') → t σ H Q
def GW (t : TE) (f : Env → Option (W × Env)) : Prop := ∀ B H O σ env, Rep B H σ env O → ∀ w env', f env = some (w, env') → ∀ Q : VK, (∀ v A B' H' O', Gr B H O B' H' (A ++ O') → Rep B' H' σ env' O' → WR B' H' O' v w A → Q v H') → t σ H Q
def GT (t : TT) (f : Env → Option (Bool × Env)) : Prop := ∀ B H O σ env, Rep B H σ env O → ∀ b env', f env = some (b, env') → ∀ Q : Bool → Hp → Prop, (∀ B' H' O', Gr B H O B' H' O' → Rep B' H' σ env' O' → Q b H') → t σ H Q
/-- arguments: operands; data -/
def OpOks (B : Hp) (σ : List (Option V)) : List V → List Opd → Prop := Paired (OpOk B σ)
def GA (t : TA) (f : Env → Option (List Opd × Env)) : Prop := ∀ B H O σ env, Rep B H σ env O → ∀ os env', f env = some (os, env') → ∀ Q : List V → Hp → Prop, (∀ vs B' H' O', Gr B H O B' H' O' → Rep B' H' σ env' O' → OpOks B' σ vs os → Q vs H') → t σ H Q
def GAD (t : TA) (f : Env → Option (List D × Env)) : Prop := ∀ B H O σ env, Rep B H σ env O → ∀ ds env', f env = some (ds, env') → ∀ Q : List V → Hp → Prop, (∀ vs B' H' O', Gr B H O B' H' O' → Rep B' H' σ env' O' → DVs B' vs ds → Q vs H') → t σ H Q
structure XO (X : Cx) (e : Expr) (f : Env → Option (Opd × Env)) : Prop where ex : ∃ t, PE X e t ∧ GO t f
structure XD (X : Cx) (e : Expr) (f : Env → Option (D × Env)) : Prop where ex : ∃ t, PE X e t ∧ GD t f
structure XW (X : Cx) (e : Expr) (f : Env → Option (W × Env)) : Prop where ex : ∃ t, PE X e t ∧ GW t f
structure XT (X : Cx) (e : Expr) (f : Env → Option (Bool × Env)) : Prop where ex : ∃ t, PT X e t ∧ GT t f
structure XTW (X : Cx) (e : Expr) (f : Env → Option (Bool × Env)) : Prop where ex : ∃ t, PW X e t ∧ GT t f
structure XA (X : Cx) (es : List Expr) (f : Env → Option (List Opd × Env)) : Prop where ex : ∃ t, PA X es t ∧ GA t f
structure XAD (X : Cx) (es : List Expr) (f : Env → Option (List D × Env)) : Prop where ex : ∃ t, PA X es t ∧ GAD t f

/-! #### from one to another -/
def fz (f : Env → Option (W × Env)) : Env → Option (D × Env) := fun env => bd (f env) fun w e => bo (wD w) fun d => some (d, e)
def sW (f : Env → Option (D × Env)) : Env → Option (W × Env) := fun env => bd (f env) fun d e => some (.sh d, e)
def vO (f : Env → Option (D × Env)) : Env → Option (Opd × Env) := fun env => bd (f env) fun d e => some (.val d, e)
def gTr : D → Option Bool
  | .bool b => some b
  | _ => none
def tD (f : Env → Option (D × Env)) : Env → Option (Bool × Env) := fun env => bd (f env) fun d e => bo (gTr d) fun b => some (b, e)
theorem GW.fz {t : TE} {f : Env → Option (W × Env)} (h : GW t f) : GD t (fz f) := fun B H O σ env r d env' e Q q => by
  obtain ⟨w, e1, h1, h2⟩ := bd_inv e
  obtain ⟨c, h3, h4⟩ := bo_inv h2
  cases h4
  refine h B H O σ env r w _ h1 Q fun v A B1 H1 O1 g1 r1 k1 => ?_
  obtain ⟨B2, g2, r2, k2⟩ := k1.freeze r1 h3
  exact q v B2 H1 O1 (g1.trans g2) r2 k2
theorem wr_sh {B H : Hp} {O : List Addr} {v : V} {d : D} (h : DV B v d) : WR B H O v (.sh d) [] := ⟨.sh h, List.nodup_nil, fun _ m => by simp at m, fun _ m => by simp at m⟩
theorem GD.sW {t : TE} {f : Env → Option (D × Env)} (h : GD t f) : GW t (sW f) := fun B H O σ env r d env' e Q q => by
  obtain ⟨w, e1, h1, h2⟩ := bd_inv e
  cases h2
  exact h B H O σ env r w _ h1 Q fun v B1 H1 O1 g1 r1 k1 => q v [] B1 H1 O1 g1 r1 (wr_sh k1)
theorem GD.vO {t : TE} {f : Env → Option (D × Env)} (h : GD t f) : GO t (vO f) := fun B H O σ env r d env' e Q q => by
  obtain ⟨w, e1, h1, h2⟩ := bd_inv e
  cases h2
  exact h B H O σ env r w _ h1 Q fun v B1 H1 O1 g1 r1 k1 => q v B1 H1 O1 g1 r1 k1
theorem DV.bool {H : Hp} {v : V} {b : Bool} (h : DV H v (.bool b)) : v = .bl b := by cases h; rfl
theorem GD.tB {t : TE} {f : Env → Option (D × Env)} (h : GD t f) : GT (tB t) (tD f) := fun B H O σ env r d env' e Q q => by
  obtain ⟨w, e1, h1, h2⟩ := bd_inv e
  obtain ⟨b, h3, h4⟩ := bo_inv h2
  cases h4
  refine h B H O σ env r w _ h1 _ fun v B1 H1 O1 g1 r1 k1 => ?_
  cases w with
  | bool c =>
    cases h3
    exact ⟨_, k1.bool, q B1 H1 O1 g1 r1⟩
  | _ => cases h3

/-! #### names and constants -/
def eV (i : Nat) : Env → Option (Opd × Env) := fun env => bo (wF (get env i)) fun _ => some (.slot i, env)
/-- a slot as data: what it owns is laid into the base -/
def eD (i : Nat) : Env → Option (D × Env) := fun env => bo (wK (get env i)) fun d => some (d, put env i (.sh d))
where wK : W → Option D
  | .sh d => some d
  | .ow ds => some (.list ds)
  | .nest ws => bo (wIs ws) fun ds => some (.list ds)
  | _ => none
@[simp] theorem wK_sh (d : D) : eD.wK (.sh d) = some d := nrfl rfl
@[simp] theorem wK_ow (d : List D) : eD.wK (.ow d) = some (.list d) := nrfl rfl
@[simp] theorem wK_nest (ws : List W) : eD.wK (.nest ws) = bo (wIs ws) fun ds => some (.list ds) := nrfl rfl
theorem wK_wD {w : W} {d : D} (h : eD.wK w = some d) : wD w = some d := by
  cases w <;> first | exact h | cases h
/-- a slot's last use -/
def eM (i : Nat) : Env → Option (W × Env) := fun env => match get env i with
  | .sh d => some (.sh d, env)
  | .emp => none
  | .pu _ _ => none
  | w => some (w, put env i .emp)
def eC (d : D) : Env → Option (D × Env) := fun env => some (d, env)
theorem go_var {i : Nat} : GO (tVar i) (eV i) := fun B H O σ env r o env' e Q q => by
  obtain ⟨d, h1, h2⟩ := bo_inv e
  cases h2
  obtain ⟨v, A, h, _⟩ := r.rl.get r.nd (i := i) (by intro z; rw [z] at h1; cases h1)
  exact ⟨v, h, q v B H O Gr.refl r h⟩
theorem gd_var {i : Nat} : GD (tVar i) (eD i) := fun B H O σ env r d env' e Q q => by
  obtain ⟨c, h1, h2⟩ := bo_inv e
  cases h2
  obtain ⟨B', O', v, h1, h2, h3, h4⟩ := r.freeze (wK_wD h1)
  exact ⟨v, h3, q v B' H O' h1 h2 h4⟩
theorem gw_move {i : Nat} : GW (tVar i) (eM i) := fun B H O σ env r w env' e Q q => by
  have move : ∀ w1, get env i = w1 → w1 ≠ .emp → (w, env') = (w1, put env i .emp) → tVar i σ H Q := fun w1 g ne z => by
    cases z
    obtain ⟨v, A, O', h1, h2, h3, h4, h5⟩ := r.take (i := i) (by rw [g]; exact ne)
    refine ⟨v, h1, q v A B H O' ⟨Ex.refl _, fun _ _ h _ => h, fun _ h => .inl h, fun b m => .inl ((List.mem_append.mp m).elim (h4 b) (h5 b))⟩ h3 (g ▸ h2)⟩
  unfold eM at e
  cases g : get env i with
  | emp => rw [g] at e; cases e
  | sh c =>
    rw [g] at e; cases e
    obtain ⟨v, A, h1, h2, h3⟩ := r.rl.get r.nd (i := i) (by rw [g]; intro z; cases z)
    rw [g] at h2
    cases h2 with
    | sh h => exact ⟨v, h1, q v [] B H O Gr.refl r (wr_sh h)⟩
  | ow c => rw [g] at e; exact move _ g (by intro z; cases z) (Option.some.inj e).symm
  | pu b c => rw [g] at e; cases e
  | nest ws => rw [g] at e; exact move _ g (by intro z; cases z) (Option.some.inj e).symm
  | dk c => rw [g] at e; exact move _ g (by intro z; cases z) (Option.some.inj e).symm
  | dt c => rw [g] at e; exact move _ g (by intro z; cases z) (Option.some.inj e).symm
theorem gd_c {v : V} {d : D} (h : ∀ H, DV H v d) : GD (tC v) (eC d) := fun B H O σ env r o env' e Q q => by
  cases e
  exact q v B H O Gr.refl r (h B)

/-! #### operations of two operands -/
def PR (B H : Hp) (w : W) (R : VK → Prop) : Prop := ∀ Q : VK, (∀ v A B' H', Gp B H B' H' → NR H B' H' v w A → Q v H') → R Q
def OpW (r : R2) (op : D → D → Option W) : Prop := ∀ B H x y a b w, Ex B H → BV B H x a → BV B H y b → op a b = some w → PR B H w fun Q => r x y H Q
def UnW (r : V → Hp → VK → Prop) (op : D → Option W) : Prop := ∀ B H x a w, Ex B H → BV B H x a → op a = some w → PR B H w fun Q => r x H Q
def BVs (B H : Hp) : List V → List D → Prop := Paired (BV B H)
def CallW (r : List V → Hp → VK → Prop) (op : List D → Option W) : Prop := ∀ B H xs ds w, Ex B H → BVs B H xs ds → op ds = some w → PR B H w fun Q => r xs H Q
def MtW (r : V → List V → Hp → VK → Prop) (op : D → List D → Option W) : Prop := ∀ B H x xs a ds w, Ex B H → BV B H x a → BVs B H xs ds → op a ds = some w → PR B H w fun Q => r x xs H Q
def eB (op : D → D → Option W) (f g : Env → Option (Opd × Env)) : Env → Option (W × Env) := fun env => bd (f env) fun a e1 => bd (g e1) fun b e2 => bo (a.look e2) fun x => bo (b.look e2) fun y => bo (op x y) fun w => some (w, e2)
def eU (op : D → Option W) (f : Env → Option (Opd × Env)) : Env → Option (W × Env) := fun env => bd (f env) fun a e1 => bo (a.look e1) fun x => bo (op x) fun w => some (w, e1)
theorem PR.end {B H : Hp} {O : List Addr} {σ : List (Option V)} {env : Env} {w : W} {R : VK → Prop} (p : PR B H w R) (r : Rep B H σ env O) {Q : VK} (q : ∀ v A B' H' O', Gr B H O B' H' (A ++ O') → Rep B' H' σ env O' → WR B' H' O' v w A → Q v H') : R Q :=
  p Q fun v A B' H' g n => q v A B' H' O (n.gr g) (r.grow g) (n.wr r)
theorem nr_sh {H B' H' : Hp} {v : V} {d : D} (h : DV B' v d) : NR H B' H' v (.sh d) [] := ⟨.sh h, List.nodup_nil, fun _ m => by simp at m⟩
/-- a value that is no new object -/
theorem PR.val {B H : Hp} {d : D} {v : V} {R : VK → Prop} (s : Ex B H) (h : DV B v d) (k : ∀ Q : VK, Q v H → R Q) : PR B H (.sh d) R := fun Q q => k Q (q v [] B H (Gp.refl s) (nr_sh h))
theorem gw_op {r : R2} {op : D → D → Option W} {ta tb : TE} {f g : Env → Option (Opd × Env)} (hr : OpW r op) (ha : GO ta f) (hb : GO tb g) : GW (tOp r ta tb) (eB op f g) := fun B H O σ env rp w env' e Q q => by
  obtain ⟨a, e1, h1, e⟩ := bd_inv e
  obtain ⟨b, e2, h2, e⟩ := bd_inv e
  obtain ⟨x, h3, e⟩ := bo_inv e
  obtain ⟨y, h4, e⟩ := bo_inv e
  obtain ⟨z, h5, e⟩ := bo_inv e
  cases e
  refine ha B H O σ env rp a e1 h1 _ fun v B1 H1 O1 g1 r1 k1 => hb B1 H1 O1 σ e1 r1 b _ h2 _ fun u B2 H2 O2 g2 r2 k2 => ?_
  exact (hr B2 H2 v u x y w r2.sub ((k1.mono g2.base).bv r2 h3) (k2.bv r2 h4) h5).end r2 fun v' A' B' H' O' g' r' k' => q v' A' B' H' O' ((g1.trans g2).trans g') r' k'
theorem gw_un {r : V → Hp → VK → Prop} {op : D → Option W} {ta : TE} {f : Env → Option (Opd × Env)} (hr : UnW r op) (ha : GO ta f) : GW (tUn r ta) (eU op f) := fun B H O σ env rp w env' e Q q => by
  obtain ⟨a, e1, h1, e⟩ := bd_inv e
  obtain ⟨x, h3, e⟩ := bo_inv e
  obtain ⟨z, h5, e⟩ := bo_inv e
  cases e
  refine ha B H O σ env rp a _ h1 _ fun v B1 H1 O1 g1 r1 k1 => ?_
  exact (hr B1 H1 v x w r1.sub (k1.bv r1 h3) h5).end r1 fun v' A' B' H' O' g' r' k' => q v' A' B' H' O' (g1.trans g') r' k'
/-! #### arguments -/
def aN : Env → Option (List Opd × Env) := fun env => some ([], env)
def aC (f : Env → Option (Opd × Env)) (g : Env → Option (List Opd × Env)) : Env → Option (List Opd × Env) := fun env => bd (f env) fun o e1 => bd (g e1) fun os e2 => some (o :: os, e2)
def adN : Env → Option (List D × Env) := fun env => some ([], env)
def adC (f : Env → Option (D × Env)) (g : Env → Option (List D × Env)) : Env → Option (List D × Env) := fun env => bd (f env) fun o e1 => bd (g e1) fun os e2 => some (o :: os, e2)
theorem ga_nil : GA tNil aN := fun B H O σ env r os env' e Q q => by
  cases e
  exact q [] B H O Gr.refl r .nil
theorem OpOks.mono {B B' : Hp} {σ : List (Option V)} (e : Ex B B') : ∀ {vs : List V} {os : List Opd}, OpOks B σ vs os → OpOks B' σ vs os
  | _, _, .nil => .nil
  | _, _, .cons h hs => .cons (h.mono e) (OpOks.mono e hs)
theorem ga_cons {te : TE} {t : TA} {f : Env → Option (Opd × Env)} {g : Env → Option (List Opd × Env)} (ha : GO te f) (hb : GA t g) : GA (tCons te t) (aC f g) := fun B H O σ env rp os env' e Q q => by
  obtain ⟨a, e1, h1, e⟩ := bd_inv e
  obtain ⟨b, e2, h2, e⟩ := bd_inv e
  cases e
  refine ha B H O σ env rp a e1 h1 _ fun v B1 H1 O1 g1 r1 k1 => hb B1 H1 O1 σ e1 r1 b _ h2 _ fun u B2 H2 O2 g2 r2 k2 => ?_
  exact q (v :: u) B2 H2 O2 (g1.trans g2) r2 (.cons (k1.mono g2.base) k2)
theorem gad_nil : GAD tNil adN := fun B H O σ env r os env' e Q q => by
  cases e
  exact q [] B H O Gr.refl r .nil
theorem gad_cons {te : TE} {t : TA} {f : Env → Option (D × Env)} {g : Env → Option (List D × Env)} (ha : GD te f) (hb : GAD t g) : GAD (tCons te t) (adC f g) := fun B H O σ env rp os env' e Q q => by
  obtain ⟨a, e1, h1, e⟩ := bd_inv e
  obtain ⟨b, e2, h2, e⟩ := bd_inv e
  cases e
  refine ha B H O σ env rp a e1 h1 _ fun v B1 H1 O1 g1 r1 k1 => hb B1 H1 O1 σ e1 r1 b _ h2 _ fun u B2 H2 O2 g2 r2 k2 => ?_
  exact q (v :: u) B2 H2 O2 (g1.trans g2) r2 (.cons (k1.mono g2.base) k2)
def looks (env : Env) : List Opd → Option (List D)
  | [] => some []
  | o :: os => bo (o.look env) fun d => bo (looks env os) fun ds => some (d :: ds)
@[simp] theorem looks_nil (env : Env) : looks env [] = some [] := nrfl rfl
@[simp] theorem looks_cons (env : Env) (o : Opd) (os : List Opd) : looks env (o :: os) = bo (o.look env) fun d => bo (looks env os) fun ds => some (d :: ds) := nrfl rfl
theorem OpOks.bvs {B H : Hp} {σ : List (Option V)} {env : Env} {O : List Addr} (r : Rep B H σ env O) : ∀ {vs : List V} {os : List Opd} {ds : List D}, OpOks B σ vs os → looks env os = some ds → BVs B H vs ds
  | _, _, _, .nil, e => by cases e; exact .nil
  | _, _, _, .cons h hs, e => by
    obtain ⟨d, h1, e⟩ := bo_inv e
    obtain ⟨ds, h2, e⟩ := bo_inv e
    cases e
    exact .cons (h.bv r h1) (OpOks.bvs r hs h2)
theorem BVs.dvs {B H : Hp} (s : Ex B H) : ∀ {vs : List V} {ds : List D}, BVs B H vs ds → DVs H vs ds
  | _, _, .nil => .nil
  | _, _, .cons h hs => .cons (h.dv s) (BVs.dvs s hs)
def eCB (op : List D → Option W) (f : Env → Option (List Opd × Env)) : Env → Option (W × Env) := fun env => bd (f env) fun os e1 => bo (looks e1 os) fun ds => bo (op ds) fun w => some (w, e1)
theorem gw_cb {r : List V → Hp → VK → Prop} {op : List D → Option W} {t : TA} {f : Env → Option (List Opd × Env)} (hr : CallW r op) (ha : GA t f) : GW (tCB r t) (eCB op f) := fun B H O σ env rp w env' e Q q => by
  obtain ⟨a, e1, h1, e⟩ := bd_inv e
  obtain ⟨x, h3, e⟩ := bo_inv e
  obtain ⟨z, h5, e⟩ := bo_inv e
  cases e
  refine ha B H O σ env rp a _ h1 _ fun v B1 H1 O1 g1 r1 k1 => ?_
  exact (hr B1 H1 v x w r1.sub (k1.bvs r1 h3) h5).end r1 fun v' A' B' H' O' g' r' k' => q v' A' B' H' O' (g1.trans g') r' k'
/-! #### displays -/
def eTup (f : Env → Option (List D × Env)) : Env → Option (W × Env) := fun env => bd (f env) fun ds e => if ds.length < 1000 then some (.sh (.tuple ds), e) else none
def eLst (f : Env → Option (List D × Env)) : Env → Option (W × Env) := fun env => bd (f env) fun ds e => if ds.length < 1000 then some (.ow ds, e) else none
theorem sz1000 {n : Nat} (h : n < 1000) : n ≤ sizeLine := by
  show n ≤ 2 ^ 24
  omega
theorem new_list {B H : Hp} {xs : List V} {ds : List D} (s : Ex B H) (k : DVs B xs ds) (z : xs.length ≤ sizeLine) : PR B H (.ow ds) fun Q => ∀ p, H p = none → Q (.ref p) (upd H p (.lst xs)) :=
  fun Q q p hp => q (.ref p) [p] B _ (Gp.new0 s hp) ⟨.ow upd_same z k, by simp, fun a m => by rw [List.mem_singleton.mp m]; exact ⟨hp, Evl.fresh_back s hp⟩⟩
theorem new_tup {B H : Hp} {xs : List V} {ds : List D} (s : Ex B H) (k : DVs B xs ds) (z : xs.length ≤ sizeLine) : PR B H (.sh (.tuple ds)) fun Q => ∀ p, H p = none → Q (.ref p) (upd H p (.tup xs)) :=
  fun Q q p hp => q (.ref p) [] _ _ (Gp.new1 s hp) (nr_sh (.tup upd_same z (k.mono (Ex.new (Evl.fresh_back s hp)))))
theorem gw_lst {t : TA} {f : Env → Option (List D × Env)} (ha : GAD t f) : GW (tLst t) (eLst f) := fun B H O σ env rp w env' e Q q => by
  obtain ⟨ds, e1, h1, e⟩ := bd_inv e
  by_cases hz : ds.length < 1000
  · rw [if_pos hz] at e
    cases e
    refine ha B H O σ env rp ds _ h1 _ fun vs B1 H1 O1 g1 r1 k1 => ⟨sz1000 (by rw [k1.length]; exact hz), ?_⟩
    exact (new_list r1.sub k1 (sz1000 (by rw [k1.length]; exact hz))).end r1 fun v' A' B' H' O' g' r' k' => q v' A' B' H' O' (g1.trans g') r' k'
  · rw [if_neg hz] at e
    cases e
theorem gw_tup {t : TA} {f : Env → Option (List D × Env)} (ha : GAD t f) : GW (tTup t) (eTup f) := fun B H O σ env rp w env' e Q q => by
  obtain ⟨ds, e1, h1, e⟩ := bd_inv e
  by_cases hz : ds.length < 1000
  · rw [if_pos hz] at e
    cases e
    refine ha B H O σ env rp ds _ h1 _ fun vs B1 H1 O1 g1 r1 k1 => ⟨sz1000 (by rw [k1.length]; exact hz), ?_⟩
    exact (new_tup r1.sub k1 (sz1000 (by rw [k1.length]; exact hz))).end r1 fun v' A' B' H' O' g' r' k' => q v' A' B' H' O' (g1.trans g') r' k'
  · rw [if_neg hz] at e
    cases e
/-! #### tests -/
def tAn (f g : Env → Option (Bool × Env)) : Env → Option (Bool × Env) := fun env => bd (f env) fun b e => if b = true then g e else some (false, e)
def tOr' (f g : Env → Option (Bool × Env)) : Env → Option (Bool × Env) := fun env => bd (f env) fun b e => if b = true then some (true, e) else g e
def tNo (f : Env → Option (Bool × Env)) : Env → Option (Bool × Env) := fun env => bd (f env) fun b e => some (!b, e)
theorem gt_and {t u : TT} {f g : Env → Option (Bool × Env)} (ha : GT t f) (hb : GT u g) : GT (tAnd t u) (tAn f g) := fun B H O σ env rp b env' e Q q => by
  obtain ⟨c, e1, h1, e⟩ := bd_inv e
  refine ha B H O σ env rp c e1 h1 _ fun B1 H1 O1 g1 r1 => ?_
  cases c with
  | true => exact hb B1 H1 O1 σ e1 r1 b env' e Q fun B2 H2 O2 g2 r2 => q B2 H2 O2 (g1.trans g2) r2
  | false => cases e; exact q B1 H1 O1 g1 r1
theorem gt_or {t u : TT} {f g : Env → Option (Bool × Env)} (ha : GT t f) (hb : GT u g) : GT (tOr t u) (tOr' f g) := fun B H O σ env rp b env' e Q q => by
  obtain ⟨c, e1, h1, e⟩ := bd_inv e
  refine ha B H O σ env rp c e1 h1 _ fun B1 H1 O1 g1 r1 => ?_
  cases c with
  | false => exact hb B1 H1 O1 σ e1 r1 b env' e Q fun B2 H2 O2 g2 r2 => q B2 H2 O2 (g1.trans g2) r2
  | true => cases e; exact q B1 H1 O1 g1 r1
theorem gt_not {t : TT} {f : Env → Option (Bool × Env)} (ha : GT t f) : GT (tNot t) (tNo f) := fun B H O σ env rp b env' e Q q => by
  obtain ⟨c, e1, h1, e⟩ := bd_inv e
  cases e
  exact ha B H O σ env rp c _ h1 _ fun B1 H1 O1 g1 r1 => q B1 H1 O1 g1 r1
/-- and, or, not as values -/
def dBl (b : Bool) : D := .bool b
def eAn (f : Env → Option (D × Env)) (g : Env → Option (D × Env)) : Env → Option (D × Env) := fun env => bd (f env) fun d e => bo (gTr d) fun b => if b = true then g e else some (.bool false, e)
def eOr (f : Env → Option (D × Env)) (g : Env → Option (D × Env)) : Env → Option (D × Env) := fun env => bd (f env) fun d e => bo (gTr d) fun b => if b = true then some (.bool true, e) else g e
def eNo (f : Env → Option (D × Env)) : Env → Option (D × Env) := fun env => bd (f env) fun d e => bo (gTr d) fun b => some (.bool (!b), e)
theorem gTr_inv {d : D} {b : Bool} (h : gTr d = some b) : d = .bool b := by
  cases d <;> first | cases h; rfl | cases h
theorem gd_and {t u : TE} {f g : Env → Option (D × Env)} (ha : GD t f) (hb : GD u g) : GD (tAndV t u) (eAn f g) := fun B H O σ env rp b env' e Q q => by
  obtain ⟨c, e1, h1, e⟩ := bd_inv e
  obtain ⟨k, h2, e⟩ := bo_inv e
  cases gTr_inv h2
  refine ha B H O σ env rp _ e1 h1 _ fun v B1 H1 O1 g1 r1 k1 => ⟨k, k1.bool, ?_⟩
  cases k with
  | true => exact hb B1 H1 O1 σ e1 r1 b env' e Q fun v B2 H2 O2 g2 r2 k2 => q v B2 H2 O2 (g1.trans g2) r2 k2
  | false => cases e; exact q _ B1 H1 O1 g1 r1 (.bl false)
theorem gd_or {t u : TE} {f g : Env → Option (D × Env)} (ha : GD t f) (hb : GD u g) : GD (tOrV t u) (eOr f g) := fun B H O σ env rp b env' e Q q => by
  obtain ⟨c, e1, h1, e⟩ := bd_inv e
  obtain ⟨k, h2, e⟩ := bo_inv e
  cases gTr_inv h2
  refine ha B H O σ env rp _ e1 h1 _ fun v B1 H1 O1 g1 r1 k1 => ⟨k, k1.bool, ?_⟩
  cases k with
  | false => exact hb B1 H1 O1 σ e1 r1 b env' e Q fun v B2 H2 O2 g2 r2 k2 => q v B2 H2 O2 (g1.trans g2) r2 k2
  | true => cases e; exact q _ B1 H1 O1 g1 r1 (.bl true)
theorem gd_not {t : TE} {f : Env → Option (D × Env)} (ha : GD t f) : GD (tNotV t) (eNo f) := fun B H O σ env rp b env' e Q q => by
  obtain ⟨c, e1, h1, e⟩ := bd_inv e
  obtain ⟨k, h2, e⟩ := bo_inv e
  cases gTr_inv h2
  cases e
  exact ha B H O σ env rp _ _ h1 _ fun v B1 H1 O1 g1 r1 k1 => ⟨k, k1.bool, q _ B1 H1 O1 g1 r1 (.bl _)⟩
def eIf {α : Type} (c : Env → Option (Bool × Env)) (f g : Env → Option (α × Env)) : Env → Option (α × Env) := fun env => bd (c env) fun b e => if b = true then f e else g e
theorem gw_if {c : TT} {ta tb : TE} {h : Env → Option (Bool × Env)} {f g : Env → Option (W × Env)} (hc : GT c h) (ha : GW ta f) (hb : GW tb g) : GW (tIf c ta tb) (eIf h f g) := fun B H O σ env rp b env' e Q q => by
  obtain ⟨k, e1, h1, e⟩ := bd_inv e
  refine hc B H O σ env rp _ e1 h1 _ fun B1 H1 O1 g1 r1 => ?_
  cases k with
  | true => exact ha B1 H1 O1 σ e1 r1 b env' e Q fun v A2 B2 H2 O2 g2 r2 k2 => q v A2 B2 H2 O2 (g1.trans g2) r2 k2
  | false => exact hb B1 H1 O1 σ e1 r1 b env' e Q fun v A2 B2 H2 O2 g2 r2 k2 => q v A2 B2 H2 O2 (g1.trans g2) r2 k2

/-! ### statements -/
inductive Fl where
  | nx | rt (w : W) | bk | ct
def EndOk (B H : Hp) (O : List Addr) (fl : Fl) (env' : Env) (Dn : Ends) : Prop := match fl with
  | .nx => ∀ σ' B' H' O', Gr B H O B' H' O' → Rep B' H' σ' env' O' → Dn.nx σ' H'
  | .bk => ∀ σ' B' H' O', Gr B H O B' H' O' → Rep B' H' σ' env' O' → Dn.bk σ' H'
  | .ct => ∀ σ' B' H' O', Gr B H O B' H' O' → Rep B' H' σ' env' O' → Dn.ct σ' H'
  | .rt w => ∀ v A σ' B' H' O', Gr B H O B' H' (A ++ O') → Rep B' H' σ' env' O' → WR B' H' O' v w A → Dn.rt v H'
theorem EndOk.on {B H B1 H1 : Hp} {O O1 : List Addr} {fl : Fl} {env' : Env} {Dn : Ends} (h : EndOk B H O fl env' Dn) (g : Gr B H O B1 H1 O1) : EndOk B1 H1 O1 fl env' Dn := by
  cases fl with
  | nx => exact fun σ' B' H' O' g' r => h σ' B' H' O' (g.trans g') r
  | bk => exact fun σ' B' H' O' g' r => h σ' B' H' O' (g.trans g') r
  | ct => exact fun σ' B' H' O' g' r => h σ' B' H' O' (g.trans g') r
  | rt w => exact fun v A σ' B' H' O' g' r k => h v A σ' B' H' O' (g.trans g') r k
def GS (t : TS) (f : Env → Option (Fl × Env)) : Prop := ∀ B H O σ env, Rep B H σ env O → ∀ fl env', f env = some (fl, env') → ∀ Dn : Ends, EndOk B H O fl env' Dn → t Dn σ H
structure XS (X : Cx) (st : Stmt) (f : Env → Option (Fl × Env)) : Prop where ex : ∃ t, PS X st t ∧ GS t f
structure XSs (X : Cx) (st : List Stmt) (f : Env → Option (Fl × Env)) : Prop where ex : ∃ t, PSs X st t ∧ GS t f
def sq (x : Option (Fl × Env)) (g : Env → Option (Fl × Env)) : Option (Fl × Env) := match x with
  | some (.nx, e) => g e
  | some (.rt w, e) => some (.rt w, e)
  | some (.bk, e) => some (.bk, e)
  | some (.ct, e) => some (.ct, e)
  | none => none
@[simp] theorem sq_nx (e : Env) (g : Env → Option (Fl × Env)) : sq (some (.nx, e)) g = g e := nrfl rfl
@[simp] theorem sq_rt (w : W) (e : Env) (g : Env → Option (Fl × Env)) : sq (some (.rt w, e)) g = some (.rt w, e) := nrfl rfl
@[simp] theorem sq_bk (e : Env) (g : Env → Option (Fl × Env)) : sq (some (.bk, e)) g = some (.bk, e) := nrfl rfl
@[simp] theorem sq_ct (e : Env) (g : Env → Option (Fl × Env)) : sq (some (.ct, e)) g = some (.ct, e) := nrfl rfl
@[simp] theorem sq_none (g : Env → Option (Fl × Env)) : sq none g = none := nrfl rfl
def sSeq (f g : Env → Option (Fl × Env)) : Env → Option (Fl × Env) := fun env => sq (f env) g
def sNx : Env → Option (Fl × Env) := fun env => some (.nx, env)
theorem gs_next : GS tNext sNx := fun B H O σ env r fl env' e Dn q => by
  cases e
  exact q σ B H O Gr.refl r
theorem gs_seq {t u : TS} {f g : Env → Option (Fl × Env)} (h1 : GS t f) (h2 : GS u g) : GS (tSeq t u) (sSeq f g) := fun B H O σ env r fl env' e Dn q => by
  have e : sq (f env) g = some (fl, env') := e
  cases hf : f env with
  | none => rw [hf] at e; cases e
  | some p =>
    obtain ⟨fl1, e1⟩ := p
    rw [hf] at e
    refine h1 B H O σ env r fl1 e1 hf _ ?_
    cases fl1 with
    | nx => exact fun σ' B' H' O' g' r' => h2 B' H' O' σ' e1 r' fl env' e Dn (q.on g')
    | rt w => cases e; exact q
    | bk => cases e; exact q
    | ct => cases e; exact q
/-- slots given up -/
def wp : List Nat → Env → Env
  | [], env => env
  | i :: r, env => put (wp r env) i .emp
@[simp] theorem wp_nil (env : Env) : wp [] env = env := nrfl rfl
@[simp] theorem wp_cons (i : Nat) (r : List Nat) (env : Env) : wp (i :: r) env = put (wp r env) i .emp := nrfl rfl
theorem Rep.wp {B H : Hp} {σ : List (Option V)} : ∀ (is : List Nat) {env : Env} {O : List Addr}, Rep B H σ env O → ∃ O', Rep B H σ (wp is env) O' ∧ ∀ a ∈ O', a ∈ O
  | [], env, O, r => ⟨O, r, fun _ m => m⟩
  | i :: is, env, O, r => by
    obtain ⟨O1, r1, s1⟩ := Rep.wp is r
    obtain ⟨O2, r2, s2⟩ := r1.drop i
    exact ⟨O2, r2, fun a m => s1 a (s2 a m)⟩
def sWp (is : List Nat) (f : Env → Option (Fl × Env)) : Env → Option (Fl × Env) := fun env => f (wp is env)
theorem GS.wp {t : TS} {f : Env → Option (Fl × Env)} (is : List Nat) (h : GS t f) : GS t (sWp is f) := fun B H O σ env r fl env' e Dn q => by
  obtain ⟨O1, r1, s1⟩ := r.wp is
  exact h B H O1 σ _ r1 fl env' e Dn (q.on (Gr.refl.less s1))
/-- name = value -/
def sSet (i : Nat) (f : Env → Option (W × Env)) : Env → Option (Fl × Env) := fun env => bd (f env) fun w e => some (.nx, put e i w)
theorem gs_set {i : Nat} {te : TE} {f : Env → Option (W × Env)} (h : GW te f) : GS (tAsg te (gName i)) (sSet i f) := fun B H O σ env r fl env' e Dn q => by
  obtain ⟨w, e1, h1, e⟩ := bd_inv e
  cases e
  refine h B H O σ env r w _ h1 _ fun v A B1 H1 O1 g1 r1 k1 => ?_
  obtain ⟨O2, r2, s2⟩ := r1.store k1 i
  exact q _ B1 H1 O2 (g1.less s2) r2
def sDrop (f : Env → Option (W × Env)) : Env → Option (Fl × Env) := fun env => bd (f env) fun _ e => some (.nx, e)
theorem gs_drop {te : TE} {f : Env → Option (W × Env)} (h : GW te f) : GS (tDrop te) (sDrop f) := fun B H O σ env r fl env' e Dn q => by
  obtain ⟨w, e1, h1, e⟩ := bd_inv e
  cases e
  exact h B H O σ env r w _ h1 _ fun v A B1 H1 O1 g1 r1 k1 => q _ B1 H1 O1 (g1.less fun a m => List.mem_append_right _ m) r1
def sRet (f : Env → Option (W × Env)) : Env → Option (Fl × Env) := fun env => bd (f env) fun w e => some (.rt w, e)
theorem gs_ret {te : TE} {f : Env → Option (W × Env)} (h : GW te f) : GS (tRet te) (sRet f) := fun B H O σ env r fl env' e Dn q => by
  obtain ⟨w, e1, h1, e⟩ := bd_inv e
  cases e
  exact h B H O σ env r w _ h1 _ fun v A B1 H1 O1 g1 r1 k1 => q v A σ B1 H1 O1 g1 r1 k1
def sRetN : Env → Option (Fl × Env) := fun env => some (.rt (.sh .none), env)
theorem gs_retN : GS tRetN sRetN := fun B H O σ env r fl env' e Dn q => by
  cases e
  exact q .non [] σ B H O Gr.refl r (wr_sh .non)
def sBk : Env → Option (Fl × Env) := fun env => some (.bk, env)
def sCt : Env → Option (Fl × Env) := fun env => some (.ct, env)
theorem gs_brk : GS tBreak sBk := fun B H O σ env r fl env' e Dn q => by
  cases e
  exact q σ B H O Gr.refl r
theorem gs_cont : GS tCont sCt := fun B H O σ env r fl env' e Dn q => by
  cases e
  exact q σ B H O Gr.refl r
def sNever : Env → Option (Fl × Env) := fun _ => none
theorem gs_never {t : TS} : GS t sNever := fun B H O σ env r fl env' e Dn q => by cases e
def sIf (c : Env → Option (Bool × Env)) (f g : Env → Option (Fl × Env)) : Env → Option (Fl × Env) := fun env => bd (c env) fun b e => if b = true then f e else g e
theorem gs_if {c : TT} {ta tb : TS} {h : Env → Option (Bool × Env)} {f g : Env → Option (Fl × Env)} (hc : GT c h) (ha : GS ta f) (hb : GS tb g) : GS (tIfS c ta tb) (sIf h f g) := fun B H O σ env rp fl env' e Dn q => by
  obtain ⟨k, e1, h1, e⟩ := bd_inv e
  refine hc B H O σ env rp _ e1 h1 _ fun B1 H1 O1 g1 r1 => ?_
  cases k with
  | true => exact ha B1 H1 O1 σ e1 r1 fl env' e Dn (q.on g1)
  | false => exact hb B1 H1 O1 σ e1 r1 fl env' e Dn (q.on g1)
/-- a, b = x, y -/
def sPar (i j : Nat) (f : Env → Option (List D × Env)) : Env → Option (Fl × Env) := fun env => bd (f env) fun ds e => match ds with
  | [x, y] => some (.nx, put (put e i (.sh x)) j (.sh y))
  | _ => none
theorem gs_par {i j : Nat} {t : TA} {f : Env → Option (List D × Env)} (h : GAD t f) : GS (tPar i j t) (sPar i j f) := fun B H O σ env r fl env' e Dn q => by
  obtain ⟨ds, e1, h1, e⟩ := bd_inv e
  refine h B H O σ env r ds e1 h1 _ fun vs B1 H1 O1 g1 r1 k1 => ?_
  cases k1 with
  | nil => cases e
  | cons a1 k1 => cases k1 with
    | nil => cases e
    | cons a2 k1 => cases k1 with
      | cons a3 k1 => cases e
      | nil =>
        cases e
        obtain ⟨O2, r2, s2⟩ := r1.storeD a1 i
        obtain ⟨O3, r3, s3⟩ := r2.storeD a2 j
        exact ⟨_, _, rfl, q _ B1 H1 O3 (g1.less fun a m => s2 a (s3 a m)) r3⟩
end Z

set_option Elab.async false
set_option linter.all false
set_option maxRecDepth 100000
set_option maxHeartbeats 4000000
/-! Z3: loops, comprehensions, calls of defs, a def's body. -/
namespace Z
open PySem PySem.Spec PyProof.Rows L2
open Evl (Ex)

/-! ### what is walked -/
def Wlk (B : Hp) (J : It) (ds : List D) : Prop := ∀ (i : Nat) (B' H' : Hp), Ex B B' → Ex B' H' →
  (∀ d, ds[i]? = some d → J.go i H' ∧ ∀ x H'', J.yld i H' x H'' → ∃ B'', Gp B' H' B'' H'' ∧ DV B'' x d) ∧ (ds.length ≤ i → J.stop i H')
def GI (wi : TI) (f : Env → Option (List D × Env)) : Prop := ∀ B H O σ env, Rep B H σ env O → ∀ ds env', f env = some (ds, env') → ∀ R : It → Hp → Prop,
  (∀ J B' H' O', Gr B H O B' H' O' → Rep B' H' σ env' O' → Wlk B' J ds → ds.length ≤ sizeLine → R J H') → wi σ H R
structure XI (X : Cx) (tg e : Expr) (f : Env → Option (List D × Env)) : Prop where ex : ∃ t, PI X tg e t ∧ GI t f
/-- a list, or a tuple -/
def iSeq (K : PySem.W.Frag) (tl : TE) : TI := fun σ H R => tl σ H fun x H1 => (∃ a xs, x = .ref a ∧ SqL K H1 a xs ∧ R (Itl K a) H1) ∨ ∃ a xs, x = .ref a ∧ SqT K H1 a xs ∧ R (Itt K a) H1
theorem pi_seq {X : Cx} {tg l : Expr} {tl : TE} (hl : PE X l tl) : PI X tg l (iSeq X.K tl) := by
  refine ⟨fun pins s σ H R I h => ?_⟩
  refine thn (hl.run pins s σ H _ I h) fun v s1 ⟨x, H1, I1, r1, q1⟩ => ?_
  rcases q1 with ⟨a, xs, e, hq, q⟩ | ⟨a, xs, e, hq, q⟩
  · subst e
    cases r1
    obtain ⟨its, rv, p, hz⟩ := I1.list hq
    refine wpAny_pyIter_list p.isList ?_
    refine ⟨s1.heap.objs.size, [s1.heap.objs.size], _, _, H1, rfl, I1.kept (t' := s1.toks) fun b o e => Heap.get?_push_of_some _ e, turn_list a _, ⟨_, Heap.get?_push_size _ rfl, rfl, rfl⟩, fun b hb => ?_, q⟩
    have e : b = s1.heap.objs.size := by simpa using hb
    subst e
    exact I1.fpOk (Nat.le_refl _) (I1.hok.fresh (Nat.le_refl _))
  · subst e
    cases r1
    obtain ⟨its, rv, p, hz⟩ := I1.tuple hq
    refine wpAny_pyIter_tuple (show s1.heap.IsTuple a its.toArray from p) ?_
    refine ⟨s1.heap.objs.size, [s1.heap.objs.size], _, _, H1, rfl, I1.kept (t' := s1.toks) fun b o e => Heap.get?_push_of_some _ e, turn_tuple a _, ⟨_, Heap.get?_push_size _ rfl, rfl, rfl⟩, fun b hb => ?_, q⟩
    have e : b = s1.heap.objs.size := by simpa using hb
    subst e
    exact I1.fpOk (Nat.le_refl _) (I1.hok.fresh (Nat.le_refl _))
def seqI : D → Option (List D)
  | .list ds => some ds
  | .tuple ds => some ds
  | _ => none
def iS (f : Env → Option (D × Env)) : Env → Option (List D × Env) := fun env => bd (f env) fun d e => bo (seqI d) fun ds => some (ds, e)
theorem gi_seq {K : PySem.W.Frag} {tl : TE} {f : Env → Option (D × Env)} (h : GD tl f) : GI (iSeq K tl) (iS f) := fun B H O σ env r ds env' e R q => by
  obtain ⟨d, e1, h1, e⟩ := bd_inv e
  obtain ⟨xs, h2, e⟩ := bo_inv e
  cases e
  refine h B H O σ env r d _ h1 _ fun v B1 H1 O1 g1 r1 k1 => ?_
  cases k1 with
  | @lst a vs ds1 h3 z k =>
    cases h2
    refine .inl ⟨a, vs, rfl, SqL.of (r1.sub _ _ h3), q _ B1 H1 O1 g1 r1 (fun i B' H' x y => ⟨fun d hd => ?_, fun hi => ?_⟩) (by rw [← k.length]; exact z)⟩
    · obtain ⟨v, h4, h5⟩ := k.get hd
      refine ⟨⟨vs, v, SqL.of (y _ _ (x _ _ h3)), h4⟩, fun u H'' hy => ?_⟩
      obtain ⟨rfl, hy⟩ := hy
      have := hy vs (SqL.of (y _ _ (x _ _ h3)))
      rw [h4] at this
      cases this
      exact ⟨B', Gp.refl y, h5.mono x⟩
    · exact ⟨vs, SqL.of (y _ _ (x _ _ h3)), by rw [k.length]; exact hi⟩
  | @tup a vs ds1 h3 z k =>
    cases h2
    refine .inr ⟨a, vs, rfl, SqT.of (r1.sub _ _ h3), q _ B1 H1 O1 g1 r1 (fun i B' H' x y => ⟨fun d hd => ?_, fun hi => ?_⟩) (by rw [← k.length]; exact z)⟩
    · obtain ⟨v, h4, h5⟩ := k.get hd
      refine ⟨⟨vs, v, SqT.of (y _ _ (x _ _ h3)), h4⟩, fun u H'' hy => ?_⟩
      obtain ⟨rfl, hy⟩ := hy
      have := hy vs (SqT.of (y _ _ (x _ _ h3)))
      rw [h4] at this
      cases this
      exact ⟨B', Gp.refl y, h5.mono x⟩
    · exact ⟨vs, SqT.of (y _ _ (x _ _ h3)), by rw [k.length]; exact hi⟩
  | _ => cases h2
def rng (lo : Int) (n : Nat) : List D := (List.range n).map fun (i : Nat) => .int (lo + (i : Int))
theorem rng_len (lo : Int) (n : Nat) : (rng lo n).length = n := by unfold rng; rw [List.length_map, List.length_range]
theorem rng_get {lo : Int} {n i : Nat} {d : D} (h : (rng lo n)[i]? = some d) : i < n ∧ d = .int (lo + (i : Int)) := by
  unfold rng at h
  rw [List.getElem?_map] at h
  by_cases hi : i < n
  · rw [List.getElem?_range hi] at h
    cases h
    exact ⟨hi, rfl⟩
  · rw [List.getElem?_eq_none (by rw [List.length_range]; omega)] at h
    cases h
theorem wlk_rng {B : Hp} {lo : Int} {n : Nat} : Wlk B (Itr lo n) (rng lo n) := fun i B' H' x y => ⟨fun d hd => by
    obtain ⟨h1, rfl⟩ := rng_get hd
    refine ⟨h1, fun u H'' hy => ?_⟩
    obtain ⟨rfl, rfl⟩ := hy
    exact ⟨B', Gp.refl y, .int _⟩, fun hi => by
    rw [rng_len] at hi
    exact hi⟩
/-- the bounds of a range -/
def inR (i : Int) : Bool := decide (-8388608 ≤ i ∧ i ≤ 8388608)
theorem inR_iff {i : Int} : inR i = true ↔ -8388608 ≤ i ∧ i ≤ 8388608 := by unfold inR; exact decide_eq_true_iff
def rngI : List D → Option (List D)
  | [.int j] => if inR j = true then some (rng 0 j.toNat) else none
  | [.int i, .int j] => if inR i = true ∧ inR j = true then some (rng i (j - i).toNat) else none
  | _ => none
def iR (f : Env → Option (List Opd × Env)) : Env → Option (List D × Env) := fun env => bd (f env) fun os e => bo (looks e os) fun ds => bo (rngI ds) fun xs => some (xs, e)
theorem szR {n : Nat} (h : n ≤ 16777216) : n ≤ sizeLine := h
theorem gi_rng1 {ta : TA} {f : Env → Option (List Opd × Env)} (h : GA ta f) : GI (iRng1 ta) (fun env => bd (f env) fun os e => if os.length = 1 then bo (looks e os) fun ds => bo (rngI ds) fun xs => some (xs, e) else none) := fun B H O σ env r ds env' e R q => by
  obtain ⟨os, e1, h1, e⟩ := bd_inv e
  by_cases hl : os.length = 1
  · rw [if_pos hl] at e
    obtain ⟨xs, h2, e⟩ := bo_inv e
    obtain ⟨ys, h3, e⟩ := bo_inv e
    cases e
    refine h B H O σ env r os _ h1 _ fun vs B1 H1 O1 g1 r1 k1 => ?_
    have bv := k1.bvs r1 h2
    have hl2 : xs.length = 1 := by
      have e1 : vs.length = os.length := Paired.length k1
      have e2 : vs.length = xs.length := Paired.length bv
      omega
    match xs, bv, h3, hl2 with
    | [.int j], .cons (a := v) b .nil, h3, _ =>
      cases b.int
      have h3 : (if inR j = true then some (rng 0 j.toNat) else none) = some ds := h3
      by_cases hj : inR j = true
      · rw [if_pos hj] at h3
        cases h3
        obtain ⟨j1, j2⟩ := inR_iff.mp hj
        exact ⟨j, rfl, by omega, by omega, q _ B1 H1 O1 g1 r1 wlk_rng (szR (by rw [rng_len]; omega))⟩
      · rw [if_neg hj] at h3; cases h3
    | [.none], _, h3, _ => cases h3
    | [.bool _], _, h3, _ => cases h3
    | [.str _], _, h3, _ => cases h3
    | [.list _], _, h3, _ => cases h3
    | [.tuple _], _, h3, _ => cases h3
    | [.dict _], _, h3, _ => cases h3
  · rw [if_neg hl] at e; cases e
theorem gi_rng2 {ta : TA} {f : Env → Option (List Opd × Env)} (h : GA ta f) : GI (iRng2 ta) (fun env => bd (f env) fun os e => if os.length = 2 then bo (looks e os) fun ds => bo (rngI ds) fun xs => some (xs, e) else none) := fun B H O σ env r ds env' e R q => by
  obtain ⟨os, e1, h1, e⟩ := bd_inv e
  by_cases hl : os.length = 2
  · rw [if_pos hl] at e
    obtain ⟨xs, h2, e⟩ := bo_inv e
    obtain ⟨ys, h3, e⟩ := bo_inv e
    cases e
    refine h B H O σ env r os _ h1 _ fun vs B1 H1 O1 g1 r1 k1 => ?_
    have bv := k1.bvs r1 h2
    have hl2 : xs.length = 2 := by
      have e1 : vs.length = os.length := Paired.length k1
      have e2 : vs.length = xs.length := Paired.length bv
      omega
    obtain ⟨x, y, rfl⟩ : ∃ x y, xs = [x, y] := match xs, hl2 with
      | [x, y], _ => ⟨x, y, rfl⟩
    have hi : ∃ i j, x = .int i ∧ y = .int j ∧ inR i = true ∧ inR j = true ∧ ds = rng i (j - i).toNat := by
      cases x <;> first | (cases h3; done) | skip
      cases y <;> first | (cases h3; done) | skip
      rename_i a b
      have h3 : (if inR a = true ∧ inR b = true then some (rng a (b - a).toNat) else none) = some ds := h3
      by_cases hh : inR a = true ∧ inR b = true
      · rw [if_pos hh] at h3
        cases h3
        exact ⟨_, _, rfl, rfl, hh.1, hh.2, rfl⟩
      · rw [if_neg hh] at h3; cases h3
    obtain ⟨i, j, rfl, rfl, hi, hj, rfl⟩ := hi
    obtain ⟨j1, j2⟩ := inR_iff.mp hj
    obtain ⟨i1, i2⟩ := inR_iff.mp hi
    match vs, bv with
    | [_, _], .cons b (.cons c .nil) =>
      cases b.int
      cases c.int
      refine ⟨i, j, rfl, ⟨by omega, by omega, by omega, by omega⟩, q _ B1 H1 O1 g1 r1 wlk_rng (szR (by rw [rng_len]; omega))⟩
  · rw [if_neg hl] at e; cases e

/-! ### targets -/
def GG (g : TG) (tg : D → Env → Option Env) (js : List Nat) : Prop := ∀ B H O σ env v d, Rep B H σ env O → DV B v d → ∀ env', tg d env = some env' → ∀ Q : L2.St → Hp → Prop,
  (∀ σ' O', Rep B H σ' env' O' → (∀ a ∈ O', a ∈ O) → σ'.length = σ.length → (∀ i, i ∉ js → σ'[i]? = σ[i]?) → Q σ' H) → g v σ H Q
structure XG (X : Cx) (e : Expr) (tg : D → Env → Option Env) (js : List Nat) : Prop where ex : ∃ t, PG X e t ∧ GG t tg js
def tgN (i : Nat) : D → Env → Option Env := fun d env => some (put env i (.sh d))
theorem gg_name {i : Nat} : GG (gName i) (tgN i) [i] := fun B H O σ env v d r k env' e Q q => by
  cases e
  obtain ⟨O2, r2, s2⟩ := r.storeD k i
  exact q _ O2 r2 s2 (List.length_set ..) fun j hj => List.getElem?_set_ne fun h => hj (by simp [h])
def GGs (g : TGs) (tg : List D → Env → Option Env) (js : List Nat) : Prop := ∀ B H O σ env vs ds, Rep B H σ env O → DVs B vs ds → ∀ env', tg ds env = some env' → ∀ Q : L2.St → Hp → Prop,
  (∀ σ' O', Rep B H σ' env' O' → (∀ a ∈ O', a ∈ O) → σ'.length = σ.length → (∀ i, i ∉ js → σ'[i]? = σ[i]?) → Q σ' H) → g vs σ H Q
def tgZ : List D → Env → Option Env
  | [], env => some env
  | _ :: _, _ => none
def tgC (t : D → Env → Option Env) (u : List D → Env → Option Env) : List D → Env → Option Env
  | [], _ => none
  | d :: ds, env => bo (t d env) fun e => u ds e
theorem ggs_nil : GGs gNil tgZ [] := fun B H O σ env vs ds r k env' e Q q => by
  cases k with
  | nil => cases e; exact ⟨rfl, q σ O r (fun _ m => m) rfl fun _ _ => rfl⟩
  | cons a b => cases e
theorem ggs_cons {g : TG} {gs : TGs} {t : D → Env → Option Env} {u : List D → Env → Option Env} {js ks : List Nat} (h1 : GG g t js) (h2 : GGs gs u ks) : GGs (gCons g gs) (tgC t u) (js ++ ks) := fun B H O σ env vs ds r k env' e Q q => by
  cases k with
  | nil => cases e
  | cons a b =>
    obtain ⟨e1, f1, f2⟩ := bo_inv e
    refine ⟨_, _, rfl, h1 B H O σ env _ _ r a e1 f1 _ fun σ1 O1 r1 s1 l1 k1 => ?_⟩
    refine h2 B H O1 σ1 e1 _ _ r1 b env' f2 _ fun σ2 O2 r2 s2 l2 k2 => ?_
    refine q σ2 O2 r2 (fun a m => s1 a (s2 a m)) (l2.trans l1) fun i hi => ?_
    have hi := mt List.mem_append.mpr hi
    rw [not_or] at hi
    exact (k2 i hi.2).trans (k1 i hi.1)
def tgT (u : List D → Env → Option Env) : D → Env → Option Env
  | .tuple ds, env => u ds env
  | _, _ => none
theorem gg_tup {K : PySem.W.Frag} {gs : TGs} {u : List D → Env → Option Env} {ks : List Nat} {n : Nat} (h : GGs gs u ks) : GG (gTup K n gs) (fun d env => match d with
  | .tuple ds => if ds.length = n then u ds env else none
  | _ => none) ks := fun B H O σ env v d r k env' e Q q => by
  cases k with
  | @tup a vs ds h3 z k =>
    have e : (if ds.length = n then u ds env else none) = some env' := e
    by_cases hn : ds.length = n
    · rw [if_pos hn] at e
      exact ⟨a, vs, rfl, SqT.of (r.sub _ _ h3), k.length.trans hn, h B H O σ env _ _ r k env' e Q q⟩
    · rw [if_neg hn] at e; cases e
  | _ => cases e

/-! ### for, while -/
def lp (x : Option (Fl × Env)) (k : Env → Option (Fl × Env)) : Option (Fl × Env) := match x with
  | some (.nx, e) => k e
  | some (.ct, e) => k e
  | some (.bk, e) => some (.nx, e)
  | some (.rt w, e) => some (.rt w, e)
  | none => none
@[simp] theorem lp_nx (e : Env) (g : Env → Option (Fl × Env)) : lp (some (.nx, e)) g = g e := nrfl rfl
@[simp] theorem lp_rt (w : W) (e : Env) (g : Env → Option (Fl × Env)) : lp (some (.rt w, e)) g = some (.rt w, e) := nrfl rfl
@[simp] theorem lp_bk (e : Env) (g : Env → Option (Fl × Env)) : lp (some (.bk, e)) g = some (.nx, e) := nrfl rfl
@[simp] theorem lp_ct (e : Env) (g : Env → Option (Fl × Env)) : lp (some (.ct, e)) g = g e := nrfl rfl
@[simp] theorem lp_none (g : Env → Option (Fl × Env)) : lp none g = none := nrfl rfl
def fLoop (tg : D → Env → Option Env) (fb : Env → Option (Fl × Env)) : List D → Env → Option (Fl × Env)
  | [], env => some (.nx, env)
  | d :: ds, env => bo (tg d env) fun e => lp (fb e) (fLoop tg fb ds)
def sFor (f : Env → Option (List D × Env)) (tg : D → Env → Option Env) (fb : Env → Option (Fl × Env)) : Env → Option (Fl × Env) := fun env => bd (f env) fun ds e => fLoop tg fb ds e
theorem gs_for {wi : TI} {g : TG} {tb : TS} {f : Env → Option (List D × Env)} {tg : D → Env → Option Env} {js : List Nat} {fb : Env → Option (Fl × Env)} (hi : GI wi f) (hg : GG g tg js) (hb : GS tb fb) : GS (tFor wi g tb) (sFor f tg fb) := fun B H O σ env r fl env' e Dn q => by
  obtain ⟨ds, e1, h1, e⟩ := bd_inv e
  refine hi B H O σ env r ds e1 h1 _ fun J B1 H1 O1 g1 r1 w1 _ => ?_
  refine ⟨fun i m σ' H' => ∃ B' O' env2, Gr B H O B' H' O' ∧ Ex B1 B' ∧ Rep B' H' σ' env2 O' ∧ i + m = ds.length ∧ fLoop tg fb (ds.drop i) env2 = some (fl, env'), ⟨ds.length, B1, O1, e1, g1, Ex.refl _, r1, by omega, e⟩, ?_⟩
  rintro i m σ' H' ⟨B', O', env2, g2, x2, r2, hm, e2⟩
  obtain ⟨go, stop⟩ := w1 i B' H' x2 r2.sub
  by_cases hi : i < ds.length
  · have hd : ds[i]? = some ds[i] := List.getElem?_eq_getElem hi
    obtain ⟨j1, j2⟩ := go _ hd
    rw [List.drop_eq_getElem_cons hi] at e2
    obtain ⟨e3, f1, f2⟩ := bo_inv e2
    refine .inr ⟨j1, fun σ'' H'' => ∃ B'' O'' env4, Gr B H O B'' H'' O'' ∧ Ex B1 B'' ∧ Rep B'' H'' σ'' env4 O'' ∧ fLoop tg fb (ds.drop (i + 1)) env4 = some (fl, env'), ?_, fun x H3 hy => ?_⟩
    · rintro σ'' H'' ⟨B'', O'', env4, k1, k2, k3, k4⟩
      exact ⟨m - 1, by omega, B'', O'', env4, k1, k2, k3, by omega, k4⟩
    · obtain ⟨B3, p3, v3⟩ := j2 x H3 hy
      have r3 := r2.grow p3
      refine hg B3 H3 O' σ' env2 x _ r3 v3 e3 f1 _ fun σ4 O4 r4 s4 _ _ => ?_
      have g4 : Gr B H O B3 H3 O4 := (g2.trans p3.gr).less s4
      have x4 : Ex B1 B3 := x2.trans p3.base
      cases hf : fb e3 with
      | none => rw [hf] at f2; cases f2
      | some p =>
        obtain ⟨fl5, e5⟩ := p
        rw [hf] at f2
        refine hb B3 H3 O4 σ4 e3 r4 fl5 e5 hf _ ?_
        cases fl5 with
        | nx => exact fun σ' B' H' O' g' r' => ⟨B', O', e5, g4.trans g', x4.trans g'.base, r', f2⟩
        | ct => exact fun σ' B' H' O' g' r' => ⟨B', O', e5, g4.trans g', x4.trans g'.base, r', f2⟩
        | bk => cases f2; exact fun σ' B' H' O' g' r' => q σ' B' H' O' (g4.trans g') r'
        | rt w => cases f2; exact fun v A σ' B' H' O' g' r' k' => q v A σ' B' H' O' (g4.trans g') r' k'
  · have : ds.drop i = [] := List.drop_eq_nil_of_le (by omega)
    rw [this] at e2
    cases e2
    exact .inl ⟨stop (by omega), q σ' B' H' O' g2 r2⟩
def wLoop (fc : Env → Option (Bool × Env)) (fb : Env → Option (Fl × Env)) : Nat → Env → Option (Fl × Env)
  | 0, _ => none
  | n + 1, env => bd (fc env) fun b e => if b = true then lp (fb e) (wLoop fc fb n) else some (.nx, e)
theorem gs_while {tc : TT} {tb : TS} {fc : Env → Option (Bool × Env)} {fb : Env → Option (Fl × Env)} (n : Nat) (hc : GT tc fc) (hb : GS tb fb) : GS (tWhile tc tb) (wLoop fc fb n) := fun B H O σ env r fl env' e Dn q => by
  refine ⟨fun m σ' H' => ∃ B' O' env2, Gr B H O B' H' O' ∧ Rep B' H' σ' env2 O' ∧ wLoop fc fb m env2 = some (fl, env'), ⟨n, B, O, env, Gr.refl, r, e⟩, ?_⟩
  rintro m σ' H' ⟨B', O', env2, g2, r2, e2⟩
  cases m with
  | zero => cases e2
  | succ m =>
    obtain ⟨b, e3, f1, f2⟩ := bd_inv e2
    refine hc B' H' O' σ' env2 r2 b e3 f1 _ fun B3 H3 O3 g3 r3 => ?_
    cases b with
    | false => cases f2; exact q σ' B3 H3 O3 (g2.trans g3) r3
    | true =>
      have f2 : lp (fb e3) (wLoop fc fb m) = some (fl, env') := f2
      rw [if_pos rfl]
      refine ⟨fun σ'' H'' => ∃ B'' O'' env4, Gr B H O B'' H'' O'' ∧ Rep B'' H'' σ'' env4 O'' ∧ wLoop fc fb m env4 = some (fl, env'), ?_, ?_⟩
      · rintro σ'' H'' ⟨B'', O'', env4, k1, k2, k3⟩
        exact ⟨m, Nat.lt_succ_self m, B'', O'', env4, k1, k2, k3⟩
      · have g4 := g2.trans g3
        cases hf : fb e3 with
        | none => rw [hf] at f2; cases f2
        | some p =>
          obtain ⟨fl5, e5⟩ := p
          rw [hf] at f2
          refine hb B3 H3 O3 σ' e3 r3 fl5 e5 hf _ ?_
          cases fl5 with
          | nx => exact fun σ' B' H' O' g' r' => ⟨B', O', e5, g4.trans g', r', f2⟩
          | ct => exact fun σ' B' H' O' g' r' => ⟨B', O', e5, g4.trans g', r', f2⟩
          | bk => cases f2; exact fun σ' B' H' O' g' r' => q σ' B' H' O' (g4.trans g') r'
          | rt w => cases f2; exact fun v A σ' B' H' O' g' r' k' => q v A σ' B' H' O' (g4.trans g') r' k'

/-! ### comprehensions -/
theorem RL.swap {B H : Hp} : ∀ {σ σ' : List (Option V)} {env : Env} {O : List Addr}, RL B H σ env O → σ.length = σ'.length → (∀ i, Z.get env i ≠ .emp → σ[i]? = σ'[i]?) → RL B H σ' env O
  | _, [], _, _, .nil, _, _ => .nil
  | _, _ :: _, _, _, .nil, h, _ => by simp at h
  | _, [], _, _, .emp _, h, _ => by simp at h
  | _, y :: σ', _, _, .emp r, h, k => .emp (RL.swap r (by simpa using h) fun i hi => by simpa using k (i + 1) hi)
  | _, [], _, _, .cons _ _, h, _ => by simp at h
  | _, y :: σ', .emp :: _, _, .cons a r, h, k => nomatch a
  | _, y :: σ', w :: _, _, .cons a r, h, k => by
    have := k 0 (by intro z; rw [get_zero] at z; subst z; cases a)
    simp at this
    rw [← this]
    exact .cons a (RL.swap r (by simpa using h) fun i hi => by simpa using k (i + 1) hi)
theorem get_put_ne {env : Env} : ∀ {i j : Nat} {w : W}, i ≠ j → get (put env i w) j = get env j := by
  induction env with
  | nil => intro i j w h; rfl
  | cons x r ih =>
    intro i j w h
    cases i with
    | zero => cases j with
      | zero => exact absurd rfl h
      | succ j => rfl
    | succ i => cases j with
      | zero => rfl
      | succ j => exact ih (fun z => h (by rw [z]))
theorem get_put_emp {env : Env} : ∀ {i : Nat}, get (put env i .emp) i = .emp := by
  induction env with
  | nil => intro i; exact get_nil i
  | cons x r ih =>
    intro i
    cases i with
    | zero => rfl
    | succ i => exact ih
theorem get_wp_mem : ∀ {vs : List Nat} {env : Env} {i : Nat}, i ∈ vs → get (wp vs env) i = .emp
  | [], _, _, h => by simp at h
  | v :: vs, env, i, h => by
    show get (put (wp vs env) v .emp) i = .emp
    by_cases e : v = i
    · subst e; exact get_put_emp
    · rw [get_put_ne e]
      exact get_wp_mem ((List.mem_cons.mp h).resolve_left fun z => e z.symm)
theorem wipe_ne {σ : L2.St} {i : Nat} : ∀ {vs : List Nat}, i ∉ vs → (wipe σ vs)[i]? = σ[i]?
  | [], _ => rfl
  | v :: vs, h => by
    unfold wipe
    rw [List.getElem?_set_ne (fun e => h (by rw [e]; exact List.mem_cons_self)), wipe_ne fun m => h (List.mem_cons_of_mem _ m)]
theorem wipe_in {σ : L2.St} {i : Nat} : ∀ {vs : List Nat}, i ∈ vs → i < σ.length → (wipe σ vs)[i]? = some none
  | [], h, _ => by simp at h
  | v :: vs, h, hi => by
    unfold wipe
    by_cases e : v = i
    · subst e
      rw [List.getElem?_set_self (by rw [wipe_length]; exact hi)]
    · rw [List.getElem?_set_ne e]
      exact wipe_in ((List.mem_cons.mp h).resolve_left fun z => e z.symm) hi
theorem wipe_back {σ σ2 : L2.St} {vs : List Nat} (hl : σ2.length = σ.length) (h : ∀ i, i ∉ vs → σ2[i]? = (wipe σ vs)[i]?) : wipe σ2 vs = wipe σ vs := by
  apply List.ext_getElem?
  intro i
  by_cases m : i ∈ vs
  · by_cases hi : i < σ.length
    · rw [wipe_in m hi, wipe_in m (by rw [hl]; exact hi)]
    · rw [List.getElem?_eq_none (by rw [wipe_length]; omega), List.getElem?_eq_none (by rw [wipe_length]; omega)]
  · rw [wipe_ne m, h i m]
theorem Rep.wipe {B H : Hp} {σ : L2.St} {env : Env} {O : List Addr} (r : Rep B H σ env O) (vs : List Nat) : ∃ O', Rep B H (L2.wipe σ vs) (Z.wp vs env) O' ∧ ∀ a ∈ O', a ∈ O := by
  obtain ⟨O', r', s'⟩ := r.wp vs
  refine ⟨O', ⟨r'.rl.swap (wipe_length σ vs).symm fun i hi => ?_, r'.nd, r'.fr, r'.sub⟩, s'⟩
  by_cases m : i ∈ vs
  · exact absurd (get_wp_mem m) hi
  · exact (wipe_ne m).symm
theorem Rep.unwipe {B H : Hp} {σ σ2 : L2.St} {env : Env} {O : List Addr} {vs : List Nat} (r : Rep B H σ2 env O) (hl : σ2.length = σ.length) (h : ∀ i, i ∉ vs → σ2[i]? = σ[i]?) : ∃ O', Rep B H σ (Z.wp vs env) O' ∧ ∀ a ∈ O', a ∈ O := by
  obtain ⟨O', r', s'⟩ := r.wp vs
  refine ⟨O', ⟨r'.rl.swap hl fun i hi => ?_, r'.nd, r'.fr, r'.sub⟩, s'⟩
  by_cases m : i ∈ vs
  · exact absurd (get_wp_mem m) hi
  · exact h i m
def cLoop (tg : D → Env → Option Env) (ft : Env → Option (Bool × Env)) (fe : Env → Option (D × Env)) (vs : List Nat) : List D → List D → Env → Option (List D × Env)
  | [], acc, env => some (acc, env)
  | d :: ds, acc, env => bo (tg d (wp vs env)) fun e1 => bd (ft e1) fun b e2 => if b = true then bd (fe e2) fun y e3 => cLoop tg ft fe vs ds (acc ++ [y]) (wp vs e3) else cLoop tg ft fe vs ds acc (wp vs e2)
def eLc (f : Env → Option (List D × Env)) (tg : D → Env → Option Env) (ft : Env → Option (Bool × Env)) (fe : Env → Option (D × Env)) (vs : List Nat) : Env → Option (W × Env) := fun env => bd (f env) fun ds e => bd (cLoop tg ft fe vs ds [] e) fun ys e' => some (.ow ys, e')
def tYs : Env → Option (Bool × Env) := fun env => some (true, env)
theorem gt_yes : GT tYes tYs := fun B H O σ env r b env' e Q q => by cases e; exact q B H O Gr.refl r
theorem gw_lc {wi : TI} {g : TG} {tt : TT} {te : TE} {f : Env → Option (List D × Env)} {tg : D → Env → Option Env} {js : List Nat} {ft : Env → Option (Bool × Env)} {fe : Env → Option (D × Env)} {vs : List Nat} (hi : GI wi f) (hg : GG g tg js) (ht : GT tt ft) (he : GD te fe) (hj : ∀ j ∈ js, j ∈ vs) :
    GW (tLc wi g tt te vs) (eLc f tg ft fe vs) := fun B H O σ env r w env' e Q q => by
  obtain ⟨ds, e1, h1, e⟩ := bd_inv e
  obtain ⟨ys, e2, h2, e⟩ := bd_inv e
  cases e
  refine hi B H O σ env r ds e1 h1 _ fun J B1 H1 O1 g1 r1 w1 z1 L hL => ?_
  have hB1 : B1 L = none := Evl.fresh_back r1.sub hL
  have gN : Gr B1 H1 O1 B1 (upd H1 L (.lst [])) O1 := (Gp.new0 r1.sub hL).gr
  have rN : Rep B1 (upd H1 L (.lst [])) σ e1 O1 := r1.grow (Gp.new0 r1.sub hL)
  -- L stays outside
  have fresh0 : L ∈ O ∨ H L = none := by
    by_cases m : L ∈ O
    · exact .inl m
    · cases hq : H L with
      | none => exact .inr rfl
      | some o => rw [g1.keep L o hq m] at hL; cases hL
  have nL1 : L ∉ O1 := fun m => by obtain ⟨o, z⟩ := r1.there m; rw [hL] at z; cases z
  refine ⟨fun i m H' => ∃ B' O' env2 acc xs, Gr B1 H1 O1 B' H' O' ∧ Rep B' H' σ env2 O' ∧ i + m = ds.length ∧ L ∉ O' ∧ B' L = none ∧ H' L = some (.lst xs) ∧ xs.length ≤ i ∧ DVs B' xs acc ∧ cLoop tg ft fe vs (ds.drop i) acc env2 = some (ys, env'),
    ⟨ds.length, B1, O1, e1, [], [], gN, rN, by omega, nL1, hB1, upd_same, Nat.le_refl _, .nil, h2⟩, ?_⟩
  rintro i m H' ⟨B', O', env2, acc, xs, g2, r2, hm, nL, bL, hxs, hlen, kacc, e2⟩
  obtain ⟨go, stop⟩ := w1 i B' H' g2.base r2.sub
  by_cases hi : i < ds.length
  · have hd : ds[i]? = some ds[i] := List.getElem?_eq_getElem hi
    obtain ⟨j1, j2⟩ := go _ hd
    rw [List.drop_eq_getElem_cons hi] at e2
    obtain ⟨e3, f1, f2⟩ := bo_inv e2
    obtain ⟨b, e4, f3, f4⟩ := bd_inv f2
    refine .inr ⟨j1, fun H'' => ∃ B'' O'' env4 acc xs, Gr B1 H1 O1 B'' H'' O'' ∧ Rep B'' H'' σ env4 O'' ∧ L ∉ O'' ∧ B'' L = none ∧ H'' L = some (.lst xs) ∧ xs.length ≤ i + 1 ∧ DVs B'' xs acc ∧ cLoop tg ft fe vs (ds.drop (i + 1)) acc env4 = some (ys, env'), ?_, fun x H3 hy => ?_⟩
    · rintro H'' ⟨B'', O'', env4, acc', xs', k1, k2, k3, k4, k5, k6, k7, k8⟩
      exact ⟨m - 1, by omega, B'', O'', env4, acc', xs', k1, k2, by omega, k3, k4, k5, k6, k7, k8⟩
    · obtain ⟨B3, p3, v3⟩ := j2 x H3 hy
      have r3 := r2.grow p3
      obtain ⟨O3, r3w, s3⟩ := r3.wipe vs
      -- L beside
      have stay : ∀ {Ba Ha Oa Bb Hb Ob}, Gr Ba Ha Oa Bb Hb Ob → L ∉ Oa → Ba L = none → Ha L = some (.lst xs) → L ∉ Ob ∧ Bb L = none ∧ Hb L = some (.lst xs) := fun {Ba Ha Oa Bb Hb Ob} g n b h => by
        refine ⟨fun m => ?_, ?_, g.keep _ _ h n⟩
        · rcases g.own L m with z | z
          · exact n z
          · rw [h] at z; cases z
        · cases q : Bb L with
          | none => rfl
          | some o =>
            rcases g.new L (by rw [q]; simp) with z | z | z
            · exact absurd b z
            · exact absurd z n
            · rw [h] at z; cases z
      obtain ⟨a1, a2, a3⟩ := stay (p3.gr (O := O')) nL bL hxs
      have g3 : Gr B1 H1 O1 B3 H3 O3 := (g2.trans p3.gr).less s3
      have nL3 : L ∉ O3 := fun m => a1 (s3 L m)
      refine hg B3 H3 O3 (L2.wipe σ vs) (wp vs env2) x _ r3w v3 e3 f1 _ fun σ4 O4 r4 s4 l4 k4 => ?_
      have hl4 : σ4.length = σ.length := by rw [l4, wipe_length]
      have same4 : ∀ i, i ∉ vs → σ4[i]? = σ[i]? := fun i hi => by
        rw [k4 i fun z => hi (hj i z), wipe_ne hi]
      refine ⟨wipe_back hl4 fun i hi => by rw [same4 i hi, wipe_ne hi], ?_⟩
      have g4 : Gr B1 H1 O1 B3 H3 O4 := g3.less s4
      have nL4 : L ∉ O4 := fun m => nL3 (s4 L m)
      refine ht B3 H3 O4 σ4 e3 r4 b e4 f3 _ fun B5 H5 O5 g5 r5 => ?_
      obtain ⟨b1, b2, b3⟩ := stay g5 nL4 a2 a3
      cases b with
      | false =>
        rw [if_neg Bool.false_ne_true]
        obtain ⟨O6, r6, s6⟩ := r5.unwipe (vs := vs) hl4 same4
        exact ⟨B5, O6, _, acc, xs, (g4.trans g5).less s6, r6, fun m => b1 (s6 L m), b2, b3, by omega, kacc.mono (p3.base.trans g5.base), f4⟩
      | true =>
        rw [if_pos rfl]
        obtain ⟨y, e5, f5, f6⟩ := bd_inv (show bd (fe e4) _ = some (ys, env') from f4)
        refine he B5 H5 O5 σ4 e4 r5 y e5 f5 _ fun v B6 H6 O6 g6 r6 k6 => ?_
        obtain ⟨c1, c2, c3⟩ := stay g6 b1 b2 b3
        have hz : xs.length < sizeLine := by omega
        refine ⟨xs, c3, hz, ?_⟩
        obtain ⟨O7, r7, s7⟩ := r6.unwipe (vs := vs) hl4 same4
        have nL7 : L ∉ O7 := fun m => c1 (s7 L m)
        have r8 : Rep B6 (upd H6 L (.lst (xs ++ [v]))) σ (wp vs e5) O7 := ⟨r7.rl.mono (Ex.refl _) fun a m o h => by rw [upd_ne (fun z => nL7 (by rw [← z]; exact m))]; exact h, r7.nd, r7.fr, fun a o h => by
          rw [upd_ne (fun z => by rw [z, c2] at h; cases h)]
          exact r7.sub a o h⟩
        have g8 := ((g4.trans g5).trans g6).less s7
        refine ⟨B6, O7, _, acc ++ [y], xs ++ [v], ⟨g8.base, fun a o h n => ?_, g8.new, g8.own⟩, r8, nL7, c2, upd_same, by rw [List.length_append]; simp; omega, (kacc.mono (p3.base.trans (g5.base.trans g6.base))).append (.cons k6 .nil), f6⟩
        rw [upd_ne (fun z => by rw [z, hL] at h; cases h)]
        exact g8.keep a o h n
  · have : ds.drop i = [] := List.drop_eq_nil_of_le (by omega)
    rw [this] at e2
    cases e2
    refine .inl ⟨stop (by omega), q _ [L] B' H' O' ?_ r2 ⟨.ow hxs (by omega) kacc, by simp, fun a m => by rw [List.mem_singleton.mp m]; exact nL, fun a m => by rw [List.mem_singleton.mp m]; exact bL⟩⟩
    have gt := g1.trans g2
    refine ⟨gt.base, gt.keep, gt.new, fun a m => ?_⟩
    rcases List.mem_append.mp m with m | m
    · rw [List.mem_singleton.mp m]; exact fresh0
    · exact gt.own a m

/-! ### defs: what they promise; calls -/
/-- a def that keeps what it is handed: data in, a value out -/
def spF (F : List D → Option W) : Sp := fun vs H Q _ => ∃ (B : Hp) (ds : List D) (w : W), Ex B H ∧ DVs B vs ds ∧ F ds = some w ∧ ∀ v A B' H', Gp B H B' H' → NR H B' H' v w A → Q v H'
/-- a def whose first argument is a list that it changes -/
def spP (F : List D → List D → Option (W × List D)) : Sp := fun vs H Q _ => ∃ (p : Addr) (vs' : List V) (B : Hp) (xs : List V) (ps ds : List D) (w : W) (ps' : List D), vs = .ref p :: vs' ∧ Ex B H ∧ B p = none ∧ H p = some (.lst xs) ∧ xs.length ≤ sizeLine ∧ DVs B xs ps ∧ DVs B vs' ds ∧ F ps ds = some (w, ps') ∧
  ∀ v A B' H' xs', Gr B H [p] B' H' (A ++ [p]) → Ex B' H' → B' p = none → H' p = some (.lst xs') → xs'.length ≤ sizeLine → DVs B' xs' ps' → WR B' H' [p] v w A → Q v H'
def eF (F : List D → Option W) (f : Env → Option (List D × Env)) : Env → Option (W × Env) := fun env => bd (f env) fun ds e => bo (F ds) fun w => some (w, e)
theorem gw_call {F : List D → Option W} {E : XK} {t : TA} {f : Env → Option (List D × Env)} (h : GAD t f) : GW (tCall (spF F) [] E t) (eF F f) := fun B H O σ env r w env' e Q q => by
  obtain ⟨ds, e1, h1, e⟩ := bd_inv e
  obtain ⟨w1, h2, e⟩ := bo_inv e
  cases e
  refine h B H O σ env r ds _ h1 _ fun vs B1 H1 O1 g1 r1 k1 => ?_
  exact ⟨B1, ds, w, r1.sub, by rw [List.append_nil]; exact k1, h2, fun v A B2 H2 gp nr => q v A B2 H2 O1 (g1.trans (nr.gr gp)) (r1.grow gp) (nr.wr r1)⟩
/-- f(purse, ..): the caller's slot i is changed by the def -/
def wP : W → Option (Addr × List D)
  | .pu p ps => some (p, ps)
  | _ => none
@[simp] theorem wP_pu (p : Addr) (ps : List D) : wP (.pu p ps) = some (p, ps) := nrfl rfl
theorem wP_inv {w : W} {p : Addr} {ps : List D} (h : wP w = some (p, ps)) : w = .pu p ps := by
  cases w <;> first | cases h; rfl | cases h
def eP (i : Nat) (F : List D → List D → Option (W × List D)) (f : Env → Option (List D × Env)) : Env → Option (W × Env) := fun env => bo (wP (get env i)) fun _ => bd (f env) fun ds e => bo (wP (get e i)) fun q => bo (F q.2 ds) fun r => some (r.1, put e i (.pu q.1 r.2))
theorem Rep.purse {B H : Hp} {σ : List (Option V)} {env : Env} {O : List Addr} (r : Rep B H σ env O) {i : Nat} {p : Addr} {ps : List D} (h : get env i = .pu p ps) :
    σ[i]? = some (some (.ref p)) ∧ p ∈ O ∧ ∃ xs O', H p = some (.lst xs) ∧ xs.length ≤ sizeLine ∧ DVs B xs ps ∧ Rep B H σ (put env i .emp) O' ∧ p ∉ O' ∧ ∀ a ∈ O', a ∈ O := by
  obtain ⟨v, A, O', h1, h2, h3, h4, h5⟩ := r.take (i := i) (by rw [h]; intro z; cases z)
  rw [h] at h2
  obtain ⟨sr, nd, dj, fr⟩ := h2
  cases sr with
  | pu h z k => exact ⟨h1, h4 _ (by simp), _, O', h, z, k, h3, dj _ (by simp), h5⟩
theorem gw_callP {i : Nat} {F : List D → List D → Option (W × List D)} {E : XK} {t : TA} {f : Env → Option (List D × Env)} (h : GAD t f) : GW (tCall (spP F) [] E (tCons (tVar i) t)) (eP i F f) := fun B H O σ env r w env' e Q q => by
  obtain ⟨⟨p0, ps0⟩, h0, e⟩ := bo_inv e
  obtain ⟨ds, e1, h1, e⟩ := bd_inv e
  obtain ⟨⟨p, ps⟩, h2, e⟩ := bo_inv e
  obtain ⟨⟨w1, ps'⟩, h3, e⟩ := bo_inv e
  cases e
  obtain ⟨a1, _⟩ := r.purse (wP_inv h0)
  refine ⟨.ref p0, a1, h B H O σ env r ds _ h1 _ fun vs B1 H1 O1 g1 r1 k1 => ?_⟩
  obtain ⟨b1, b2, xs, O2, b3, b4, b5, r2, n2, s2⟩ := r1.purse (wP_inv h2)
  have ep : p0 = p := by
    rw [a1] at b1; cases b1; rfl
  subst ep
  refine ⟨p0, vs, B1, xs, ps, ds, w1, ps', by rw [List.append_nil], r1.sub, r1.fr p0 b2, b3, b4, b5, k1, h3, fun v A B2 H2 xs' g2 x2 nb hp2 z2 d2 k2 => ?_⟩
  have kp : ∀ a ∈ O2, ∀ o, H1 a = some o → H2 a = some o := fun a m o h => g2.keep a o h (fun z => n2 (by
    have : a = p0 := by simpa using z
    rw [← this]; exact m))
  have fr : ∀ a ∈ O2, B2 a = none := fun a m => by
    cases q : B2 a with
    | none => rfl
    | some o =>
      obtain ⟨u, hu⟩ := r2.there m
      rcases g2.new a (by rw [q]; simp) with z | z | z
      · rw [r2.fr a m] at z; exact absurd rfl z
      · have : a = p0 := by simpa using z
        exact absurd (this ▸ m) n2
      · rw [z] at hu; cases hu
  have r3 : Rep B2 H2 σ (put e1 i .emp) O2 := ⟨r2.rl.mono g2.base kp, r2.nd, fr, x2⟩
  obtain ⟨O4, r4, s4⟩ := r3.store (w := .pu p0 ps') (v := .ref p0) (A := [p0]) ⟨.pu hp2 z2 d2, by simp, fun a m => by rw [List.mem_singleton.mp m]; exact n2, fun a m => by rw [List.mem_singleton.mp m]; exact nb⟩ i
  rw [set_same b1, put_put] at r4
  have s5 : ∀ a ∈ O4, a ∈ O1 := fun a m => (List.mem_append.mp (s4 a m)).elim (fun z => by rw [List.mem_singleton.mp z]; exact b2) (s2 a)
  refine q v A B2 H2 O4 (g1.trans ⟨g2.base, fun a o h n => g2.keep a o h (fun z => n (by rw [List.mem_singleton.mp z]; exact b2)), fun a n => ?_, fun a m => ?_⟩) r4 ⟨k2.sr, k2.nd, fun a m z => ?_, k2.fr⟩
  · rcases g2.new a n with z | z | z
    · exact .inl z
    · rw [List.mem_singleton.mp z]; exact .inr (.inl b2)
    · exact .inr (.inr z)
  · rcases List.mem_append.mp m with m | m
    · rcases g2.own a (List.mem_append_left _ m) with z | z
      · rw [List.mem_singleton.mp z]; exact .inl b2
      · exact .inr z
    · exact .inl (s5 a m)
  · rcases g2.own a (List.mem_append_left _ m) with y | y
    · exact k2.dj a m y
    · obtain ⟨u, hu⟩ := r1.there (s5 a z)
      rw [y] at hu; cases hu

/-! ### a def, by its body -/
def runF (n m : Nat) (fb : Env → Option (Fl × Env)) (ds : List D) : Option W :=
  if ds.length = n then match fb (ds.map W.sh ++ List.replicate (m - n) .emp) with
    | some (.rt w, _) => some w
    | some (.nx, _) => some (.sh .none)
    | _ => none
  else none
def runP (n m : Nat) (fb : Env → Option (Fl × Env)) (p : Addr) (ps ds : List D) : Option (W × List D) :=
  if ds.length + 1 = n then match fb (W.pu p ps :: (ds.map W.sh ++ List.replicate (m - n) .emp)) with
    | some (.rt w, e) => bo (wP (get e 0)) fun q => if q.1 = p then some (w, q.2) else none
    | some (.nx, e) => bo (wP (get e 0)) fun q => if q.1 = p then some (.sh .none, q.2) else none
    | _ => none
  else none
theorem RL.emps {B H : Hp} : ∀ k : Nat, RL B H (List.replicate k none) (List.replicate k .emp) []
  | 0 => .nil
  | k + 1 => .emp (RL.emps k)
theorem RL.args {B H : Hp} : ∀ {vs : List V} {ds : List D} (k : Nat), DVs B vs ds → RL B H (vs.map some ++ List.replicate k none) (ds.map W.sh ++ List.replicate k .emp) []
  | _, _, k, .nil => RL.emps k
  | _, _, k, .cons h hs => .cons (A := []) (.sh h) (RL.args k hs)
/-! ### pure expressions: nothing that is owned changes, the answer is read in the heap as a whole -/
def GB (t : TE) (f : Env → Option D) : Prop := ∀ B H O σ env, Rep B H σ env O → ∀ d, f env = some d → ∀ Q : VK, (∀ v H', Ex H H' → DV H' v d → Q v H') → t σ H Q
def GBA (t : TA) (f : Env → Option (List D)) : Prop := ∀ B H O σ env, Rep B H σ env O → ∀ ds, f env = some ds → ∀ Q : List V → Hp → Prop, (∀ vs H', Ex H H' → DVs H' vs ds → Q vs H') → t σ H Q
def GBT (t : TT) (f : Env → Option Bool) : Prop := ∀ B H O σ env, Rep B H σ env O → ∀ b, f env = some b → ∀ Q : Bool → Hp → Prop, (∀ H', Ex H H' → Q b H') → t σ H Q
structure XB (X : Cx) (e : Expr) (f : Env → Option D) : Prop where ex : ∃ t, PE X e t ∧ GB t f
structure XBA (X : Cx) (es : List Expr) (f : Env → Option (List D)) : Prop where ex : ∃ t, PA X es t ∧ GBA t f
theorem Rep.ext {B H H' : Hp} {σ : List (Option V)} {env : Env} {O : List Addr} (r : Rep B H σ env O) (x : Ex H H') : Rep B H' σ env O := ⟨r.rl.mono (Ex.refl _) fun a _ o h => x a o h, r.nd, r.fr, r.sub.trans x⟩
theorem gr_ext {B H H' : Hp} {O : List Addr} (x : Ex H H') : Gr B H O B H' O := ⟨Ex.refl _, fun a o h _ => x a o h, fun _ h => .inl h, fun _ h => .inl h⟩
def isSc : D → Bool
  | .none => true
  | .bool _ => true
  | .int _ => true
  | .str _ => true
  | _ => false
theorem DV.sc {H H' : Hp} {v : V} {d : D} (h : DV H v d) (s : isSc d = true) : DV H' v d := by
  cases h with
  | non => exact .non
  | bl b => exact .bl b
  | int i => exact .int i
  | str x => exact .str x
  | lst => cases s
  | tup => cases s
  | scr => cases s
def bV (i : Nat) : Env → Option D := fun env => wD (get env i)
def bC (d : D) : Env → Option D := fun _ => some d
theorem gb_var {i : Nat} : GB (tVar i) (bV i) := fun B H O σ env r d e Q q => by
  obtain ⟨v, h1, h2⟩ := r.data e
  exact ⟨v, h1, q v H (Ex.refl _) h2⟩
theorem gb_c {v : V} {d : D} (h : ∀ H, DV H v d) : GB (tC v) (bC d) := fun B H O σ env r c e Q q => by
  cases e
  exact q v H (Ex.refl _) (h H)
def bsc (f : Env → Option D) : Env → Option (D × Env) := fun env => bo (f env) fun d => if isSc d = true then some (d, env) else none
theorem GB.gd {t : TE} {f : Env → Option D} (h : GB t f) : GD t (bsc f) := fun B H O σ env r d env' e Q q => by
  obtain ⟨c, h1, e⟩ := bo_inv e
  by_cases s : isSc c = true
  · rw [if_pos s] at e
    cases e
    exact h B H O σ env r d h1 Q fun v H' x k => q v B H' O (gr_ext x) (r.ext x) (k.sc s)
  · rw [if_neg s] at e; cases e
def bN : Env → Option (List D) := fun _ => some []
def bCs (f : Env → Option D) (g : Env → Option (List D)) : Env → Option (List D) := fun env => bo (f env) fun d => bo (g env) fun ds => some (d :: ds)
theorem gba_nil : GBA tNil bN := fun B H O σ env r ds e Q q => by cases e; exact q [] H (Ex.refl _) .nil
theorem gba_cons {te : TE} {t : TA} {f : Env → Option D} {g : Env → Option (List D)} (ha : GB te f) (hb : GBA t g) : GBA (tCons te t) (bCs f g) := fun B H O σ env r ds e Q q => by
  obtain ⟨d, h1, e⟩ := bo_inv e
  obtain ⟨es, h2, e⟩ := bo_inv e
  cases e
  exact ha B H O σ env r d h1 _ fun v H1 x1 k1 => hb B H1 O σ env (r.ext x1) es h2 _ fun vs H2 x2 k2 => q (v :: vs) H2 (x1.trans x2) (.cons (k1.mono x2) k2)
theorem bv_full {H : Hp} {v : V} {d : D} (h : DV H v d) : BV H H v d := .inl h
theorem PR.full {H : Hp} {w : W} {d : D} {R : VK → Prop} (p : PR H H w R) (e : wD w = some d) {Q : VK} (q : ∀ v H', Ex H H' → DV H' v d → Q v H') : R Q :=
  p Q fun v A B' H' g n => q v H' g.keep (n.sr.data (B' := H') g.sub (fun _ _ => rfl) e)
def bB (op : D → D → Option W) (f g : Env → Option D) : Env → Option D := fun env => bo (f env) fun x => bo (g env) fun y => bo (op x y) fun w => wD w
def bU (op : D → Option W) (f : Env → Option D) : Env → Option D := fun env => bo (f env) fun x => bo (op x) fun w => wD w
theorem gb_op {r : R2} {op : D → D → Option W} {ta tb : TE} {f g : Env → Option D} (hr : OpW r op) (ha : GB ta f) (hb : GB tb g) : GB (tOp r ta tb) (bB op f g) := fun B H O σ env rp d e Q q => by
  obtain ⟨x, h1, e⟩ := bo_inv e
  obtain ⟨y, h2, e⟩ := bo_inv e
  obtain ⟨w, h3, e⟩ := bo_inv e
  exact ha B H O σ env rp x h1 _ fun v H1 x1 k1 => hb B H1 O σ env (rp.ext x1) y h2 _ fun u H2 x2 k2 => (hr H2 H2 v u x y w (Ex.refl _) (bv_full (k1.mono x2)) (bv_full k2) h3).full e fun z H3 x3 k3 => q z H3 ((x1.trans x2).trans x3) k3
theorem gb_un {r : V → Hp → VK → Prop} {op : D → Option W} {ta : TE} {f : Env → Option D} (hr : UnW r op) (ha : GB ta f) : GB (tUn r ta) (bU op f) := fun B H O σ env rp d e Q q => by
  obtain ⟨x, h1, e⟩ := bo_inv e
  obtain ⟨w, h3, e⟩ := bo_inv e
  exact ha B H O σ env rp x h1 _ fun v H1 x1 k1 => (hr H1 H1 v x w (Ex.refl _) (bv_full k1) h3).full e fun z H3 x3 k3 => q z H3 (x1.trans x3) k3
theorem DVs.bvs {H : Hp} : ∀ {vs : List V} {ds : List D}, DVs H vs ds → BVs H H vs ds
  | _, _, .nil => .nil
  | _, _, .cons h hs => .cons (bv_full h) (DVs.bvs hs)
def bCB (op : List D → Option W) (f : Env → Option (List D)) : Env → Option D := fun env => bo (f env) fun ds => bo (op ds) fun w => wD w
theorem gb_cb {r : List V → Hp → VK → Prop} {op : List D → Option W} {t : TA} {f : Env → Option (List D)} (hr : CallW r op) (ha : GBA t f) : GB (tCB r t) (bCB op f) := fun B H O σ env rp d e Q q => by
  obtain ⟨x, h1, e⟩ := bo_inv e
  obtain ⟨w, h3, e⟩ := bo_inv e
  exact ha B H O σ env rp x h1 _ fun v H1 x1 k1 => (hr H1 H1 v x w (Ex.refl _) k1.bvs h3).full e fun z H3 x3 k3 => q z H3 (x1.trans x3) k3
theorem gb_call {F : List D → Option W} {E : XK} {t : TA} {f : Env → Option (List D)} (h : GBA t f) : GB (tCall (spF F) [] E t) (bCB F f) := fun B H O σ env rp d e Q q => by
  obtain ⟨x, h1, e⟩ := bo_inv e
  obtain ⟨w, h3, e⟩ := bo_inv e
  refine h B H O σ env rp x h1 _ fun v H1 x1 k1 => ?_
  exact ⟨H1, x, w, Ex.refl _, by rw [List.append_nil]; exact k1, h3, fun v A B2 H2 gp nr => q v H2 (x1.trans gp.keep) (nr.sr.data (B' := H2) gp.sub (fun _ _ => rfl) e)⟩
def bLst (f : Env → Option (List D)) : Env → Option D := fun env => bo (f env) fun ds => if ds.length < 1000 then some (.list ds) else none
def bTup (f : Env → Option (List D)) : Env → Option D := fun env => bo (f env) fun ds => if ds.length < 1000 then some (.tuple ds) else none
theorem gb_lst {t : TA} {f : Env → Option (List D)} (ha : GBA t f) : GB (tLst t) (bLst f) := fun B H O σ env rp d e Q q => by
  obtain ⟨ds, h1, e⟩ := bo_inv e
  by_cases hz : ds.length < 1000
  · rw [if_pos hz] at e
    cases e
    refine ha B H O σ env rp ds h1 _ fun vs H1 x1 k1 => ⟨sz1000 (by rw [k1.length]; exact hz), fun p hp => q _ _ (x1.trans (Ex.new hp)) (.lst upd_same (sz1000 (by rw [k1.length]; exact hz)) (k1.mono (Ex.new hp)))⟩
  · rw [if_neg hz] at e; cases e
theorem gb_tup {t : TA} {f : Env → Option (List D)} (ha : GBA t f) : GB (tTup t) (bTup f) := fun B H O σ env rp d e Q q => by
  obtain ⟨ds, h1, e⟩ := bo_inv e
  by_cases hz : ds.length < 1000
  · rw [if_pos hz] at e
    cases e
    refine ha B H O σ env rp ds h1 _ fun vs H1 x1 k1 => ⟨sz1000 (by rw [k1.length]; exact hz), fun p hp => q _ _ (x1.trans (Ex.new hp)) (.tup upd_same (sz1000 (by rw [k1.length]; exact hz)) (k1.mono (Ex.new hp)))⟩
  · rw [if_neg hz] at e; cases e
def bAn (f g : Env → Option D) : Env → Option D := fun env => bo (f env) fun d => bo (gTr d) fun b => if b = true then g env else some (.bool false)
def bOr (f g : Env → Option D) : Env → Option D := fun env => bo (f env) fun d => bo (gTr d) fun b => if b = true then some (.bool true) else g env
def bNo (f : Env → Option D) : Env → Option D := fun env => bo (f env) fun d => bo (gTr d) fun b => some (.bool (!b))
theorem gb_and {t u : TE} {f g : Env → Option D} (ha : GB t f) (hb : GB u g) : GB (tAndV t u) (bAn f g) := fun B H O σ env rp d e Q q => by
  obtain ⟨c, h1, e⟩ := bo_inv e
  obtain ⟨k, h2, e⟩ := bo_inv e
  cases gTr_inv h2
  refine ha B H O σ env rp _ h1 _ fun v H1 x1 k1 => ⟨k, k1.bool, ?_⟩
  cases k with
  | true => exact hb B H1 O σ env (rp.ext x1) d e Q fun v H2 x2 k2 => q v H2 (x1.trans x2) k2
  | false => cases e; exact q _ H1 x1 (.bl false)
theorem gb_or {t u : TE} {f g : Env → Option D} (ha : GB t f) (hb : GB u g) : GB (tOrV t u) (bOr f g) := fun B H O σ env rp d e Q q => by
  obtain ⟨c, h1, e⟩ := bo_inv e
  obtain ⟨k, h2, e⟩ := bo_inv e
  cases gTr_inv h2
  refine ha B H O σ env rp _ h1 _ fun v H1 x1 k1 => ⟨k, k1.bool, ?_⟩
  cases k with
  | false => exact hb B H1 O σ env (rp.ext x1) d e Q fun v H2 x2 k2 => q v H2 (x1.trans x2) k2
  | true => cases e; exact q _ H1 x1 (.bl true)
theorem gb_not {t : TE} {f : Env → Option D} (ha : GB t f) : GB (tNotV t) (bNo f) := fun B H O σ env rp d e Q q => by
  obtain ⟨c, h1, e⟩ := bo_inv e
  obtain ⟨k, h2, e⟩ := bo_inv e
  cases gTr_inv h2
  cases e
  exact ha B H O σ env rp _ h1 _ fun v H1 x1 k1 => ⟨k, k1.bool, q _ H1 x1 (.bl _)⟩

/-! ### nests -/
def GN (t : TA) (f : Env → Option (List W × Env)) : Prop := ∀ B H O σ env, Rep B H σ env O → ∀ ws env', f env = some (ws, env') → ∀ Q : List V → Hp → Prop, (∀ vs A B' H' O', Gr B H O B' H' (A ++ O') → Rep B' H' σ env' O' → SRs B' H' vs ws A → A.Nodup → (∀ a ∈ A, a ∉ O' ∧ B' a = none) → Q vs H') → t σ H Q
structure XN (X : Cx) (es : List Expr) (f : Env → Option (List W × Env)) : Prop where ex : ∃ t, PA X es t ∧ GN t f
def nN : Env → Option (List W × Env) := fun env => some ([], env)
def nC (f : Env → Option (W × Env)) (g : Env → Option (List W × Env)) : Env → Option (List W × Env) := fun env => bd (f env) fun w e1 => bd (g e1) fun ws e2 => some (w :: ws, e2)
theorem gn_nil : GN tNil nN := fun B H O σ env r ws env' e Q q => by
  cases e
  exact q [] [] B H O Gr.refl r .nil List.nodup_nil fun a m => by simp at m
theorem gn_cons {te : TE} {t : TA} {f : Env → Option (W × Env)} {g : Env → Option (List W × Env)} (ha : GW te f) (hb : GN t g) : GN (tCons te t) (nC f g) := fun B H O σ env r ws env' e Q q => by
  obtain ⟨w, e1, h1, e⟩ := bd_inv e
  obtain ⟨us, e2, h2, e⟩ := bd_inv e
  cases e
  refine ha B H O σ env r w e1 h1 _ fun v A B1 H1 O1 g1 r1 k1 => hb B1 H1 O1 σ e1 r1 us _ h2 _ fun vs A2 B2 H2 O2 g2 r2 k2 n2 f2 => ?_
  -- A stays beside
  have hA : ∀ a ∈ A, ∀ o, H1 a = some o → H2 a = some o := fun a m o h => g2.keep a o h (k1.dj a m)
  have nA : ∀ a ∈ A, a ∉ A2 ++ O2 ∧ B2 a = none := fun a m => by
    obtain ⟨o, ho⟩ := k1.sr.there a m
    refine ⟨fun z => ?_, ?_⟩
    · rcases g2.own a z with y | y
      · exact k1.dj a m y
      · rw [ho] at y; cases y
    · cases q : B2 a with
      | none => rfl
      | some u =>
        rcases g2.new a (by rw [q]; simp) with y | y | y
        · rw [k1.fr a m] at y; exact absurd rfl y
        · exact absurd y (k1.dj a m)
        · rw [ho] at y; cases y
  refine q (v :: vs) (A ++ A2) B2 H2 O2 ⟨g1.base.trans g2.base, fun a o h n => ?_, fun a h => ?_, fun a m => ?_⟩ r2 (.cons (k1.sr.mono g2.base hA) k2) (List.nodup_append.mpr ⟨k1.nd, n2, fun a m b m2 z => (nA a m).1 (List.mem_append_left _ (z ▸ m2))⟩) fun a m => ?_
  · have h1' := g1.keep a o h n
    refine g2.keep a o h1' fun z => ?_
    rcases g1.own a (List.mem_append_right _ z) with y | y
    · exact n y
    · rw [h] at y; cases y
  · rcases g2.new a h with y | y | y
    · exact g1.new a y
    · exact .inr (g1.own a (List.mem_append_right _ y))
    · by_cases m : a ∈ O
      · exact .inr (.inl m)
      · cases q : H a with
        | none => exact .inr (.inr rfl)
        | some o => rw [g1.keep a o q m] at y; cases y
  · have back : ∀ a, a ∈ O1 ∨ H1 a = none → a ∈ O ∨ H a = none := fun a y => by
      rcases y with y | y
      · exact g1.own a (List.mem_append_right _ y)
      · by_cases m : a ∈ O
        · exact .inl m
        · cases q : H a with
          | none => exact .inr rfl
          | some o => rw [g1.keep a o q m] at y; cases y
    rw [List.append_assoc] at m
    rcases List.mem_append.mp m with m | m
    · exact g1.own a (List.mem_append_left _ m)
    · exact back a (g2.own a m)
  · rcases List.mem_append.mp m with m | m
    · exact ⟨fun z => (nA a m).1 (List.mem_append_right _ z), (nA a m).2⟩
    · exact f2 a m
def eNest (f : Env → Option (List W × Env)) : Env → Option (W × Env) := fun env => bd (f env) fun ws e => if ws.length < 1000 then some (.nest ws, e) else none
theorem gw_nest {t : TA} {f : Env → Option (List W × Env)} (ha : GN t f) : GW (tLst t) (eNest f) := fun B H O σ env r w env' e Q q => by
  obtain ⟨ws, e1, h1, e⟩ := bd_inv e
  by_cases hz : ws.length < 1000
  · rw [if_pos hz] at e
    cases e
    refine ha B H O σ env r ws _ h1 _ fun vs A B1 H1 O1 g1 r1 k1 n1 f1 => ⟨sz1000 (by rw [k1.length]; exact hz), fun p hp => ?_⟩
    have np : ∀ a ∈ A, a ≠ p := fun a m z => by
      obtain ⟨o, h⟩ := k1.there a m
      rw [z, hp] at h; cases h
    have npO : p ∉ O1 := fun m => by obtain ⟨o, h⟩ := r1.there m; rw [hp] at h; cases h
    have hb := Evl.fresh_back r1.sub hp
    refine q (.ref p) (p :: A) B1 _ O1 ⟨g1.base, fun a o h n => ?_, g1.new, fun a m => ?_⟩ (r1.ext (Ex.new hp)) ⟨.nest upd_same (sz1000 (by rw [k1.length]; exact hz)) (k1.mono (Ex.refl _) fun a m o h => by rw [upd_ne (np a m)]; exact h), List.nodup_cons.mpr ⟨fun m => np p m rfl, n1⟩, fun a m => ?_, fun a m => ?_⟩
    · have := g1.keep a o h n
      rw [upd_ne (fun z => by rw [z, hp] at this; cases this)]
      exact this
    · rcases List.mem_append.mp m with m | m
      · rcases List.mem_cons.mp m with z | m
        · by_cases y : p ∈ O
          · rw [z]; exact .inl y
          · cases q : H p with
            | none => rw [z]; exact .inr q
            | some o => have := g1.keep p o q y; rw [hp] at this; cases this
        · exact g1.own a (List.mem_append_left _ m)
      · exact g1.own a (List.mem_append_right _ m)
    · rcases List.mem_cons.mp m with z | m
      · rw [z]; exact npO
      · exact (f1 a m).1
    · rcases List.mem_cons.mp m with z | m
      · rw [z]; exact hb
      · exact (f1 a m).2
  · rw [if_neg hz] at e; cases e
end Z

set_option Elab.async false
set_option linter.all false
set_option maxRecDepth 100000
set_option maxHeartbeats 4000000
/-! Z4: operations upon data, by the layer's rules. -/
namespace Z
open PySem PySem.Spec PyProof.Rows L2
open Evl (Ex)

/-! ### lists of ints, of truth values -/
def intOf : D → Option Int
  | .int i => some i
  | _ => none
def boolOf : D → Option Bool
  | .bool i => some i
  | _ => none
def intsOf : List D → Option (List Int)
  | [] => some []
  | d :: ds => bo (intOf d) fun i => bo (intsOf ds) fun is => some (i :: is)
def boolsOf : List D → Option (List Bool)
  | [] => some []
  | d :: ds => bo (boolOf d) fun i => bo (boolsOf ds) fun is => some (i :: is)
@[simp] theorem intOf_int (i : Int) : intOf (.int i) = some i := nrfl rfl
@[simp] theorem boolOf_bool (i : Bool) : boolOf (.bool i) = some i := nrfl rfl
@[simp] theorem intsOf_nil : intsOf [] = some [] := nrfl rfl
@[simp] theorem intsOf_cons (d : D) (ds : List D) : intsOf (d :: ds) = bo (intOf d) fun i => bo (intsOf ds) fun is => some (i :: is) := nrfl rfl
@[simp] theorem boolsOf_nil : boolsOf [] = some [] := nrfl rfl
@[simp] theorem boolsOf_cons (d : D) (ds : List D) : boolsOf (d :: ds) = bo (boolOf d) fun i => bo (boolsOf ds) fun is => some (i :: is) := nrfl rfl
@[simp] theorem intsOf_map (ns : List Int) : intsOf (ns.map .int) = some ns := by
  induction ns with
  | nil => rfl
  | cons n r ih => rw [List.map_cons, intsOf_cons, ih]; rfl
@[simp] theorem boolsOf_map (ns : List Bool) : boolsOf (ns.map .bool) = some ns := by
  induction ns with
  | nil => rfl
  | cons n r ih => rw [List.map_cons, boolsOf_cons, ih]; rfl
@[simp] theorem intsOf_mapf {α : Type} (g : α → Int) (ns : List α) : intsOf (ns.map fun x => .int (g x)) = some (ns.map g) := by
  induction ns with
  | nil => rfl
  | cons n r ih => rw [List.map_cons, intsOf_cons, ih]; rfl
@[simp] theorem boolsOf_mapf {α : Type} (g : α → Bool) (ns : List α) : boolsOf (ns.map fun x => .bool (g x)) = some (ns.map g) := by
  induction ns with
  | nil => rfl
  | cons n r ih => rw [List.map_cons, boolsOf_cons, ih]; rfl
theorem intsOf_inv : ∀ {ds : List D} {ns : List Int}, intsOf ds = some ns → ds = ns.map .int
  | [], _, h => by cases h; rfl
  | d :: ds, _, h => by
    obtain ⟨i, h1, h⟩ := bo_inv h
    obtain ⟨is, h2, h⟩ := bo_inv h
    cases h
    rw [List.map_cons, ← intsOf_inv h2]
    cases d <;> first | cases h1; rfl | cases h1
theorem boolsOf_inv : ∀ {ds : List D} {ns : List Bool}, boolsOf ds = some ns → ds = ns.map .bool
  | [], _, h => by cases h; rfl
  | d :: ds, _, h => by
    obtain ⟨i, h1, h⟩ := bo_inv h
    obtain ⟨is, h2, h⟩ := bo_inv h
    cases h
    rw [List.map_cons, ← boolsOf_inv h2]
    cases d <;> first | cases h1; rfl | cases h1
theorem DVs.vints {H : Hp} {vs : List V} {ds : List D} {ns : List Int} (h : DVs H vs ds) (e : intsOf ds = some ns) : vs = ns.map V.int := by
  rw [intsOf_inv e] at h
  exact h.ints
theorem DVs.vbools {H : Hp} {vs : List V} {ds : List D} {ns : List Bool} (h : DVs H vs ds) (e : boolsOf ds = some ns) : vs = ns.map V.bl := by
  rw [boolsOf_inv e] at h
  exact h.bools

/-! ### the bundles: a rule and what it computes -/
structure OpX (X : Cx) (f : Value → Value → Sem Value) (g : D → D → Option W) : Prop where ex : ∃ r, OpR X f r ∧ OpW r g
structure UnX (X : Cx) (f : Value → Sem Value) (g : D → Option W) : Prop where ex : ∃ r, UnR X f r ∧ UnW r g
structure CallX (X : Cx) (f : Value) (g : List D → Option W) : Prop where ex : ∃ r, CallR X f r ∧ CallW r g
section
variable {X : Cx}

/-! #### arithmetic -/
def smallLen (n : Nat) : Bool := decide (n < 1000000)
def wAdd : D → D → Option W
  | .int i, .int j => some (.sh (.int (i + j)))
  | .list xs, .list ys => if smallLen (xs.length + ys.length) = true then some (.ow (xs ++ ys)) else none
  | .tuple (x :: xs), .tuple (y :: ys) => if smallLen (xs.length + ys.length) = true then some (.sh (.tuple (x :: xs ++ y :: ys))) else none
  | .str a, .str b => if smallLen (a.length + b.length) = true then some (.sh (.str (a ++ b))) else none
  | _, _ => none
theorem sl_line {n : Nat} (h : smallLen n = true) : n + 2 ≤ sizeLine := by
  have h := of_decide_eq_true h
  show n + 2 ≤ 2 ^ 24
  omega
theorem op_addX : OpX X (binaryOp .Add) wAdd := by
  refine ⟨_, (op_add (X := X)).or ((op_cat (X := X)).or ((op_catT (X := X)).or op_add_str)), fun B H x y a b w s ha hb e => ?_⟩
  cases a with
  | int i =>
    cases b with
    | int j => cases e; cases ha.int; cases hb.int; exact PR.val s (.int _) fun Q q => .inl ⟨i, j, rfl, rfl, q⟩
    | _ => cases e
  | list xs =>
    cases b with
    | list ys =>
      have e : (if smallLen (xs.length + ys.length) = true then some (W.ow (xs ++ ys)) else none) = some w := e
      by_cases hz : smallLen (xs.length + ys.length) = true
      · rw [if_pos hz] at e
        cases e
        obtain ⟨p, vs, rfl, h1, z1, k1⟩ := ha.list s
        obtain ⟨q, us, rfl, h2, z2, k2⟩ := hb.list s
        have z : vs.length + us.length ≤ sizeLine := by rw [k1.length, k2.length]; have := sl_line hz; omega
        refine fun Q qq => .inr (.inl ⟨p, q, vs, us, rfl, rfl, h1, h2, z, ?_⟩)
        exact new_list s (k1.append k2) (by rw [List.length_append]; exact z) Q qq
      · rw [if_neg hz] at e; cases e
    | _ => cases e
  | tuple xs =>
    cases b with
    | tuple ys =>
      cases xs with
      | nil => cases e
      | cons x xs => cases ys with
        | nil => cases e
        | cons y ys =>
          have e : (if smallLen (xs.length + ys.length) = true then some (W.sh (.tuple (x :: xs ++ y :: ys))) else none) = some w := e
          by_cases hz : smallLen (xs.length + ys.length) = true
          · rw [if_pos hz] at e
            cases e
            obtain ⟨p, vs, rfl, h1, z1, k1⟩ := ha.tuple s
            obtain ⟨q, us, rfl, h2, z2, k2⟩ := hb.tuple s
            have l1 := k1.length
            have l2 := k2.length
            have z : vs.length + us.length ≤ sizeLine := by rw [l1, l2, List.length_cons, List.length_cons]; have := sl_line hz; omega
            refine fun Q qq => .inr (.inr (.inl ⟨p, q, vs, us, rfl, rfl, SqT.of h1, SqT.of h2, (fun z => by rw [z] at l1; cases l1), z, (fun z => by rw [z] at l2; cases l2), fun _ => ?_⟩))
            exact new_tup s (k1.append k2) (by rw [List.length_append]; exact z) Q qq
          · rw [if_neg hz] at e; cases e
    | _ => cases xs <;> cases e
  | str x1 =>
    cases b with
    | str y1 =>
      have e : (if smallLen (x1.length + y1.length) = true then some (W.sh (.str (x1 ++ y1))) else none) = some w := e
      by_cases hz : smallLen (x1.length + y1.length) = true
      · rw [if_pos hz] at e
        cases e
        cases ha.str; cases hb.str
        exact PR.val s (.str _) fun Q q => .inr (.inr (.inr ⟨x1, y1, rfl, rfl, by have := sl_line hz; omega, q⟩))
      · rw [if_neg hz] at e; cases e
    | _ => cases e
  | none => cases e
  | bool _ => cases e
  | dict _ => cases e
def wI2 (g : Int → Int → Int) : D → D → Option W
  | .int i, .int j => some (.sh (.int (g i j)))
  | _, _ => none
def wI2c (c : Int → Int → Bool) (g : Int → Int → Int) : D → D → Option W
  | .int i, .int j => if c i j = true then some (.sh (.int (g i j))) else none
  | _, _ => none
def wB2 (g : Int → Int → Bool) : D → D → Option W
  | .int i, .int j => some (.sh (.bool (g i j)))
  | _, _ => none
@[simp] theorem wI2_int (g : Int → Int → Int) (i j : Int) : wI2 g (.int i) (.int j) = some (.sh (.int (g i j))) := nrfl rfl
@[simp] theorem wI2c_int (c : Int → Int → Bool) (g : Int → Int → Int) (i j : Int) : wI2c c g (.int i) (.int j) = if c i j = true then some (.sh (.int (g i j))) else none := nrfl rfl
@[simp] theorem wB2_int (g : Int → Int → Bool) (i j : Int) : wB2 g (.int i) (.int j) = some (.sh (.bool (g i j))) := nrfl rfl
theorem opw_i {g : Int → Int → Int} : OpW (rI0 fun i j => .int (g i j)) (wI2 g) := fun B H x y a b w s ha hb e => by
  cases a with
  | int i =>
    cases b with
    | int j => cases e; cases ha.int; cases hb.int; exact PR.val s (.int _) fun Q q => ⟨i, j, rfl, rfl, q⟩
    | _ => cases e
  | _ => cases e
theorem opw_b {g : Int → Int → Bool} : OpW (rI0 fun i j => .bl (g i j)) (wB2 g) := fun B H x y a b w s ha hb e => by
  cases a with
  | int i =>
    cases b with
    | int j => cases e; cases ha.int; cases hb.int; exact PR.val s (.bl _) fun Q q => ⟨i, j, rfl, rfl, q⟩
    | _ => cases e
  | _ => cases e
theorem opw_c {C : Int → Int → Prop} {c : Int → Int → Bool} {g : Int → Int → Int} (h : ∀ i j, c i j = true → C i j) : OpW (rI C fun i j => .int (g i j)) (wI2c c g) := fun B H x y a b w s ha hb e => by
  cases a with
  | int i =>
    cases b with
    | int j =>
      have e : (if c i j = true then some (W.sh (.int (g i j))) else none) = some w := e
      by_cases hc : c i j = true
      · rw [if_pos hc] at e
        cases e; cases ha.int; cases hb.int; exact PR.val s (.int _) fun Q q => ⟨i, j, rfl, rfl, h i j hc, q⟩
      · rw [if_neg hc] at e; cases e
    | _ => cases e
  | _ => cases e
def wSub : D → D → Option W := wI2 fun i j => i - j
theorem op_subX : OpX X (binaryOp .Sub) wSub := ⟨_, op_sub, opw_i⟩
def mulOk (i j : Int) : Bool := decide (i.natAbs.log2 + j.natAbs.log2 < 1000000)
def divOk (_ j : Int) : Bool := decide (0 < j ∧ j.natAbs.log2 < 9000)
def modOk (_ j : Int) : Bool := decide (0 < j)
def wDiv : D → D → Option W := wI2c divOk fun i j => i / j
theorem op_divX : OpX X (binaryOp .FloorDiv) wDiv := ⟨_, op_fdivW, opw_c fun i j h => (show 0 < j ∧ j.natAbs.log2 < 9000 from of_decide_eq_true h)⟩
def wMod : D → D → Option W := wI2c modOk fun i j => i % j
theorem op_modX : OpX X (binaryOp .Mod) wMod := ⟨_, op_mod, opw_c fun _ _ h => of_decide_eq_true h⟩
def powOk (i j : Int) : Bool := decide (0 ≤ j ∧ (Builtin.Int.intBits i : Int) * j ≤ 134217728)
theorem op_powB : OpR X (binaryOp .Pow) (rI (fun i j => 0 ≤ j ∧ (Builtin.Int.intBits i : Int) * j ≤ 2 ^ 27) fun i j => .int (i ^ j.toNat)) := opI fun _ _ _ _ _ _ _ hc q => pow_int hc.1 hc.2 q
def wPow : D → D → Option W := wI2c powOk fun i j => i ^ j.toNat
theorem op_powX : OpX X (binaryOp .Pow) wPow := ⟨_, op_powB, opw_c fun _ _ h => of_decide_eq_true h⟩
def repOk (n : Nat) (k : Int) : Bool := decide (-1000000 < k ∧ k < 1000000 ∧ n * k.toNat < 1000000)
def wMul : D → D → Option W
  | .int i, .int j => if mulOk i j = true then some (.sh (.int (i * j))) else none
  | .list xs, .int k => if repOk xs.length k = true then some (.ow (List.replicate k.toNat xs).flatten) else none
  | _, _ => none
theorem op_mulX : OpX X (binaryOp .Mult) wMul := by
  refine ⟨_, (op_mulW (X := X)).or op_rep, fun B H x y a b w s ha hb e => ?_⟩
  cases a with
  | int i =>
    cases b with
    | int j =>
      have e : (if mulOk i j = true then some (W.sh (.int (i * j))) else none) = some w := e
      by_cases hc : mulOk i j = true
      · rw [if_pos hc] at e
        cases e; cases ha.int; cases hb.int; exact PR.val s (.int _) fun Q q => .inl ⟨i, j, rfl, rfl, (show i.natAbs.log2 + j.natAbs.log2 < 1000000 from of_decide_eq_true hc), q⟩
      · rw [if_neg hc] at e; cases e
    | _ => cases e
  | list xs =>
    cases b with
    | int j =>
      have e : (if repOk xs.length j = true then some (W.ow (List.replicate j.toNat xs).flatten) else none) = some w := e
      by_cases hc : repOk xs.length j = true
      · rw [if_pos hc] at e
        cases e; cases hb.int
        obtain ⟨p, vs, rfl, h1, z1, k1⟩ := ha.list s
        obtain ⟨c1, c2, c3⟩ := of_decide_eq_true hc
        have z : vs.length * j.toNat ≤ sizeLine := by rw [k1.length]; show _ ≤ 2 ^ 24; omega
        refine fun Q qq => .inr ⟨p, j, vs, rfl, rfl, h1, by omega, by omega, z, ?_⟩
        exact new_list s (k1.rep _) (by rw [List.length_flatten, List.map_replicate, List.sum_replicate_nat, Nat.mul_comm]; exact z) Q qq
      · rw [if_neg hc] at e; cases e
    | _ => cases e
  | _ => cases e
def wNeg : D → Option W
  | .int i => some (.sh (.int (-i)))
  | _ => none
theorem un_negX : UnX X (unaryOp .USub) wNeg := ⟨_, un_neg, fun B H x a w s ha e => by
  cases a with
  | int i => cases e; cases ha.int; exact PR.val s (.int _) fun Q q => ⟨i, rfl, q⟩
  | _ => cases e⟩

/-! #### comparisons -/
def wLt : D → D → Option W := wB2 fun i j => decide (i < j)
def wLe : D → D → Option W := wB2 fun i j => decide (i ≤ j)
def wGt : D → D → Option W := wB2 fun i j => decide (j < i)
def wGe : D → D → Option W := wB2 fun i j => decide (j ≤ i)
theorem op_ltX : OpX X (compareOp .Lt) wLt := ⟨_, op_lt, opw_b⟩
theorem op_leX : OpX X (compareOp .LtE) wLe := ⟨_, op_le, opw_b⟩
theorem op_gtX : OpX X (compareOp .Gt) wGt := ⟨_, op_gt, opw_b⟩
theorem op_geX : OpX X (compareOp .GtE) wGe := ⟨_, op_ge, opw_b⟩
/-- data whose equality is known to the rules -/
def shp (d : D) : Bool := SeqAt.shaped d && !d.hasDict
theorem shp_of {d : D} (h : shp d = true) : SeqAt.shaped d = true ∧ d.hasDict = false := by
  have h := Bool.and_eq_true_iff.mp h
  exact ⟨h.1, by simpa using h.2⟩
def eqD : D → D → Option Bool
  | .str a, .str b => some (a == b)
  | d, e => if shp d = true ∧ shp e = true then some (PyData.eqv d e) else none
def wEq (d e : D) : Option W := bo (eqD d e) fun b => some (.sh (.bool b))
def wNe (d e : D) : Option W := bo (eqD d e) fun b => some (.sh (.bool !b))
theorem eqD_inv {d e : D} {b : Bool} (h : eqD d e = some b) : (∃ x y, d = .str x ∧ e = .str y ∧ b = (x == y)) ∨ (shp d = true ∧ shp e = true ∧ b = PyData.eqv d e) := by
  unfold eqD at h
  split at h
  · cases h; exact .inl ⟨_, _, rfl, rfl, rfl⟩
  · split at h
    · rename_i c
      cases h; exact .inr ⟨c.1, c.2, rfl⟩
    · cases h
theorem op_eqX (hu : X.A.units + 64 < cLine) : OpX X (compareOp .Eq) wEq := by
  refine ⟨_, (op_eq (X := X)).or (op_eqD hu), fun B H x y a b w s ha hb e => ?_⟩
  obtain ⟨c, h1, e⟩ := bo_inv e
  cases e
  rcases eqD_inv h1 with ⟨x1, y1, rfl, rfl, rfl⟩ | ⟨s1, s2, rfl⟩
  · cases ha.str; cases hb.str
    refine PR.val s (.bl _) fun Q q => .inl ⟨rfl, ?_⟩
    rw [dec_str]; exact q
  · exact PR.val s (.bl _) fun Q q => .inr ⟨a, b, (ha.dv s).dp (shp_of s1).2, (hb.dv s).dp (shp_of s2).2, (shp_of s1).1, (shp_of s2).1, q⟩
theorem op_neX (hu : X.A.units + 64 < cLine) : OpX X (compareOp .NotEq) wNe := by
  refine ⟨_, (op_ne (X := X)).or (op_neD hu), fun B H x y a b w s ha hb e => ?_⟩
  obtain ⟨c, h1, e⟩ := bo_inv e
  cases e
  rcases eqD_inv h1 with ⟨x1, y1, rfl, rfl, rfl⟩ | ⟨s1, s2, rfl⟩
  · cases ha.str; cases hb.str
    refine PR.val s (.bl _) fun Q q => .inl ⟨rfl, ?_⟩
    rw [dec_str]; exact q
  · exact PR.val s (.bl _) fun Q q => .inr ⟨a, b, (ha.dv s).dp (shp_of s1).2, (hb.dv s).dp (shp_of s2).2, (shp_of s1).1, (shp_of s2).1, q⟩
/-- is None -/
def isNon : D → Bool
  | .none => true
  | _ => false
theorem DV.isNon {H : Hp} {v : V} {d : D} (h : DV H v d) : decide (v = .non) = isNon d := by
  cases h <;> rfl
def wIsN (d e : D) : Option W := match e with
  | .none => some (.sh (.bool (isNon d)))
  | _ => none
def wNotN (d e : D) : Option W := match e with
  | .none => some (.sh (.bool (!isNon d)))
  | _ => none
theorem op_isX : OpX X (compareOp .Is) wIsN := ⟨_, op_isN, fun B H x y a b w s ha hb e => by
  cases b with
  | none =>
    cases e; cases hb.none
    refine PR.val s (.bl _) fun Q q => ⟨rfl, ?_⟩
    rw [(ha.dv s).isNon]; exact q
  | _ => cases e⟩
theorem op_notX : OpX X (compareOp .IsNot) wNotN := ⟨_, op_notN, fun B H x y a b w s ha hb e => by
  cases b with
  | none =>
    cases e; cases hb.none
    refine PR.val s (.bl _) fun Q q => ⟨rfl, ?_⟩
    rw [(ha.dv s).isNon]; exact q
  | _ => cases e⟩
/-- in, of flat data -/
def flatD : D → Bool
  | .none => true
  | .bool _ => true
  | .int _ => true
  | .str _ => true
  | _ => false
def eqF : D → D → Bool := PyData.eqv
def allFlat : List D → Bool
  | [] => true
  | d :: ds => flatD d && allFlat ds
@[simp] theorem allFlat_ints (ns : List Int) : allFlat (ns.map .int) = true := by
  induction ns with
  | nil => rfl
  | cons n r ih => rw [List.map_cons]; show (true && allFlat _) = true; rw [ih]; rfl
theorem DV.flat {H : Hp} {v : V} {d : D} (h : DV H v d) (f : flatD d = true) : flatV v = true := by
  cases h <;> first | rfl | cases f
theorem DV.eqv {H : Hp} {v u : V} {d e : D} (h : DV H v d) (k : DV H u e) (f : flatD d = true) (g : flatD e = true) : eqV v u = PyData.eqv d e := by
  cases h <;> first | (cases f; done) | skip
  all_goals (cases k <;> first | (cases g; done) | skip)
  all_goals (simp [eqV, PyData.eqv])
  all_goals (first | done | (rename_i a b; cases a <;> simp) | (rename_i a b; cases b <;> simp) | skip)
end
end Z

set_option Elab.async false
set_option linter.all false
set_option maxRecDepth 100000
set_option maxHeartbeats 4000000
/-! Z5: in, places, slices, built-ins by name, methods. -/
namespace Z
open PySem PySem.Spec PyProof.Rows L2
open Evl (Ex)
section
variable {X : Cx}
/-- is d among ds (flat data) -/
def inD (d : D) (ds : List D) : Bool := ds.any fun e => PyData.eqv e d
theorem inD_v {H : Hp} {v : V} {d : D} (h : DV H v d) (f : flatD d = true) : ∀ {vs : List V} {ds : List D}, DVs H vs ds → allFlat ds = true → inV v vs = inD d ds ∧ vs.all flatV = true
  | _, _, .nil, _ => ⟨rfl, rfl⟩
  | _, _, .cons k ks, g => by
    have g := Bool.and_eq_true_iff.mp g
    obtain ⟨i1, i2⟩ := inD_v h f ks g.2
    refine ⟨?_, ?_⟩
    · show (eqV _ v || inV v _) = (PyData.eqv _ d || inD d _)
      rw [k.eqv h g.1 f, i1]
    · rw [List.all_cons, k.flat g.1, i2]; rfl
def wIn (neg : Bool) (d e : D) : Option W := match e with
  | .list ds => if flatD d = true ∧ allFlat ds = true then some (.sh (.bool (if neg = true then !inD d ds else inD d ds))) else none
  | .tuple ds => if flatD d = true ∧ allFlat ds = true then some (.sh (.bool (if neg = true then !inD d ds else inD d ds))) else none
  | _ => none
theorem opw_in {K : PySem.W.Frag} {neg : Bool} : OpW (rIn K neg) (wIn neg) := fun B H x y a b w s ha hb e => by
  cases b with
  | list ds =>
    have e : (if flatD a = true ∧ allFlat ds = true then some (W.sh (.bool (if neg = true then !inD a ds else inD a ds))) else none) = some w := e
    by_cases hc : flatD a = true ∧ allFlat ds = true
    · rw [if_pos hc] at e
      cases e
      obtain ⟨p, vs, rfl, h1, z1, k1⟩ := hb.list s
      obtain ⟨i1, i2⟩ := inD_v (ha.dv s) hc.1 (k1.mono s) hc.2
      refine PR.val s (.bl _) fun Q q => ⟨p, vs, rfl, .inl (SqL.of h1), (ha.dv s).flat hc.1, i2, ?_⟩
      rw [i1]; exact q
    · rw [if_neg hc] at e; cases e
  | tuple ds =>
    have e : (if flatD a = true ∧ allFlat ds = true then some (W.sh (.bool (if neg = true then !inD a ds else inD a ds))) else none) = some w := e
    by_cases hc : flatD a = true ∧ allFlat ds = true
    · rw [if_pos hc] at e
      cases e
      obtain ⟨p, vs, rfl, h1, z1, k1⟩ := hb.tuple s
      obtain ⟨i1, i2⟩ := inD_v (ha.dv s) hc.1 (k1.mono s) hc.2
      refine PR.val s (.bl _) fun Q q => ⟨p, vs, rfl, .inr (SqT.of h1), (ha.dv s).flat hc.1, i2, ?_⟩
      rw [i1]; exact q
    · rw [if_neg hc] at e; cases e
  | _ => cases e
theorem op_inX : OpX X (compareOp .In) (wIn false) := ⟨_, op_in_seq, opw_in⟩
theorem op_ninX : OpX X (compareOp .NotIn) (wIn true) := ⟨_, op_notIn_seq, opw_in⟩

/-! #### places -/
structure IxX (X : Cx) (g : D → D → Option W) : Prop where ex : ∃ r, IxR X r ∧ OpW r g
def wIx (a b : D) : Option W := match b with
  | .int i => match a with
    | .list ds => bo (atI ds i) fun d => some (.sh d)
    | .tuple ds => bo (atI ds i) fun d => some (.sh d)
    | .str z => if smallLen z.length = true then bo (atI z.cps.toList i) fun c => some (.sh (.str ⟨#[c]⟩)) else none
    | _ => none
  | _ => none
theorem atI_v {B : Hp} {vs : List V} {ds : List D} {i : Int} {d : D} (k : DVs B vs ds) (h : atI ds i = some d) : ∃ v, atI vs i = some v ∧ DV B v d := by
  unfold atI at h ⊢
  rw [k.length]
  cases q : ixN ds.length i with
  | none => rw [q] at h; cases h
  | some j =>
    rw [q] at h
    obtain ⟨v, h1, h2⟩ := k.get (i := j) (d := d) h
    exact ⟨v, h1, h2⟩
theorem ix_X : IxX X wIx := ⟨_, ix_seq, fun B H x y a b w s ha hb e => by
  cases b with
  | int i =>
    cases hb.int
    cases a with
    | list ds =>
      obtain ⟨d, h1, e⟩ := bo_inv (show bo (atI ds i) _ = some w from e)
      cases e
      obtain ⟨p, vs, rfl, h2, z1, k1⟩ := ha.list s
      obtain ⟨v, h3, h4⟩ := atI_v k1 h1
      exact PR.val s h4 fun Q q => .inl ⟨p, vs, i, v, rfl, rfl, SqL.of h2, h3, q⟩
    | tuple ds =>
      obtain ⟨d, h1, e⟩ := bo_inv (show bo (atI ds i) _ = some w from e)
      cases e
      obtain ⟨p, vs, rfl, h2, z1, k1⟩ := ha.tuple s
      obtain ⟨v, h3, h4⟩ := atI_v k1 h1
      exact PR.val s h4 fun Q q => .inr (.inl ⟨p, vs, i, v, rfl, rfl, SqT.of h2, h3, q⟩)
    | str z =>
      have e : (if smallLen z.length = true then bo (atI z.cps.toList i) fun c => some (W.sh (.str ⟨#[c]⟩)) else none) = some w := e
      by_cases hz : smallLen z.length = true
      · rw [if_pos hz] at e
        obtain ⟨c, h1, e⟩ := bo_inv e
        cases e
        cases ha.str
        exact PR.val s (.str _) fun Q q => .inr (.inr ⟨z, i, c, rfl, rfl, by have := sl_line hz; omega, h1, q⟩)
      · rw [if_neg hz] at e; cases e
    | _ => cases e
  | _ => cases e⟩
/-! #### slices -/
def cutD {α : Type} (xs : List α) (lo hi : Option Int) : List α := (xs.drop (HT.sIx xs.length 0 lo)).take (HT.sIx xs.length xs.length hi - HT.sIx xs.length 0 lo)
def SlW (r : V → Option Int → Option Int → Hp → VK → Prop) (g : D → Option Int → Option Int → Option W) : Prop := ∀ B H x a lo hi w, Ex B H → BV B H x a → g a lo hi = some w → PR B H w fun Q => r x lo hi H Q
def wSl (a : D) (lo hi : Option Int) : Option W := match a with
  | .list ds => some (.ow (cutD ds lo hi))
  | .dict kvs => bo (scrOf kvs) fun ns => some (.ow ((cutD ns lo hi).map .int))
  | _ => none
theorem cutV_dvs {B : Hp} {vs : List V} {ds : List D} (k : DVs B vs ds) (lo hi : Option Int) : DVs B (cutV vs lo hi) (cutD ds lo hi) := by
  unfold cutV cutD
  rw [k.length]
  exact (k.drop _).take _
theorem BV.scr {B H : Hp} {v : V} {kvs : List (D × D)} {ns : List Int} (h : BV B H v (.dict kvs)) (s : Ex B H) (hk : scrOf kvs = some ns) : ∃ a, v = .ref a ∧ Rd H a (.lst (ns.map V.int)) ∧ ns.length ≤ sizeLine := by
  rcases h with h | ⟨a, xs, ds, rfl, e, _⟩
  · cases h with
    | scr k h z => rw [hk] at k; cases k; exact ⟨_, rfl, rd_ex s h, z⟩
  · cases e
theorem cutV_map (ns : List Int) (lo hi : Option Int) : cutV (ns.map V.int) lo hi = (cutD ns lo hi).map V.int := by
  unfold cutV cutD
  rw [List.length_map, ← List.map_drop, ← List.map_take]
theorem sl_listW {K : PySem.W.Frag} : SlW (rSlL K) wSl := fun B H x a lo hi w s ha e => by
  cases a with
  | list ds =>
    cases e
    obtain ⟨p, vs, rfl, h2, z1, k1⟩ := ha.list s
    exact fun Q q => ⟨p, vs, rfl, SqL.of h2, new_list s (cutV_dvs k1 lo hi) (Nat.le_trans (cutV_length _ _ _) z1) Q q⟩
  | dict kvs =>
    obtain ⟨ns, h1, e⟩ := bo_inv (show bo (scrOf kvs) _ = some w from e)
    cases e
    obtain ⟨p, rfl, h2, z1⟩ := ha.scr s h1
    exact fun Q q => ⟨p, ns.map V.int, rfl, .inl h2, new_list s (by rw [cutV_map]; exact DVs.of_ints _) (Nat.le_trans (cutV_length _ _ _) (by rw [List.length_map]; exact z1)) Q q⟩
  | _ => cases e
def GP (t : TO) (f : Env → Option (Option Int × Env)) : Prop := ∀ B H O σ env, Rep B H σ env O → ∀ o env', f env = some (o, env') → ∀ Q : Option Int → Hp → Prop, (∀ B' H' O', Gr B H O B' H' O' → Rep B' H' σ env' O' → Q o H') → t σ H Q
structure XP (X : Cx) (e : Option Expr) (f : Env → Option (Option Int × Env)) : Prop where ex : ∃ t, PO X e t ∧ GP t f
def pN : Env → Option (Option Int × Env) := fun env => some (none, env)
def pS (f : Env → Option (D × Env)) : Env → Option (Option Int × Env) := fun env => bd (f env) fun d e => bo (intOf d) fun i => some (some i, e)
theorem gp_none : GP tNoPart pN := fun B H O σ env r o env' e Q q => by cases e; exact q B H O Gr.refl r
theorem gp_some {t : TE} {f : Env → Option (D × Env)} (h : GD t f) : GP (tPart t) (pS f) := fun B H O σ env r o env' e Q q => by
  obtain ⟨d, e1, h1, e⟩ := bd_inv e
  obtain ⟨i, h2, e⟩ := bo_inv e
  cases e
  refine h B H O σ env r d _ h1 _ fun v B1 H1 O1 g1 r1 k1 => ?_
  cases d <;> first | (cases h2; done) | skip
  cases h2
  cases k1
  exact ⟨_, rfl, q B1 H1 O1 g1 r1⟩
def eSl (g : D → Option Int → Option Int → Option W) (f : Env → Option (Opd × Env)) (l h : Env → Option (Option Int × Env)) : Env → Option (W × Env) := fun env => bd (f env) fun o e1 => bd (l e1) fun a e2 => bd (h e2) fun b e3 => bo (o.look e3) fun d => bo (g d a b) fun w => some (w, e3)
theorem gw_sl {r : V → Option Int → Option Int → Hp → VK → Prop} {g : D → Option Int → Option Int → Option W} {te : TE} {tl th : TO} {f : Env → Option (Opd × Env)} {l h : Env → Option (Option Int × Env)} (hr : SlW r g) (ha : GO te f) (hl : GP tl l) (hh : GP th h) : GW (tSl r te tl th) (eSl g f l h) := fun B H O σ env rp w env' e Q q => by
  obtain ⟨a, e1, h1, e⟩ := bd_inv e
  obtain ⟨lo, e2, h2, e⟩ := bd_inv e
  obtain ⟨hi, e3, h3, e⟩ := bd_inv e
  obtain ⟨d, h4, e⟩ := bo_inv e
  obtain ⟨w1, h5, e⟩ := bo_inv e
  cases e
  refine ha B H O σ env rp a e1 h1 _ fun v B1 H1 O1 g1 r1 k1 => hl B1 H1 O1 σ e1 r1 lo e2 h2 _ fun B2 H2 O2 g2 r2 => hh B2 H2 O2 σ e2 r2 hi _ h3 _ fun B3 H3 O3 g3 r3 => ?_
  exact (hr B3 H3 v d lo hi w r3.sub (((k1.mono g2.base).mono g3.base).bv r3 h4) h5).end r3 fun v' A' B' H' O' g' r' k' => q v' A' B' H' O' (((g1.trans g2).trans g3).trans g') r' k'
/-! #### built-ins -/
def c1 (g : D → Option W) : List D → Option W
  | [a] => g a
  | _ => none
def c2 (g : D → D → Option W) : List D → Option W
  | [a, b] => g a b
  | _ => none
@[simp] theorem c1_one (g : D → Option W) (a : D) : c1 g [a] = g a := nrfl rfl
@[simp] theorem c2_two (g : D → D → Option W) (a b : D) : c2 g [a, b] = g a b := nrfl rfl
theorem cw1 {r : List V → Hp → VK → Prop} {g : D → Option W} (h : ∀ B H x a w, Ex B H → BV B H x a → g a = some w → PR B H w fun Q => r [x] H Q) : CallW r (c1 g) := fun B H xs ds w s k e => by
  cases k with
  | nil => cases e
  | cons a k => cases k with
    | nil => exact h B H _ _ w s a e
    | cons b k => cases e
theorem cw2 {r : List V → Hp → VK → Prop} {g : D → D → Option W} (h : ∀ B H x y a b w, Ex B H → BV B H x a → BV B H y b → g a b = some w → PR B H w fun Q => r [x, y] H Q) : CallW r (c2 g) := fun B H xs ds w s k e => by
  cases k with
  | nil => cases e
  | cons a k => cases k with
    | nil => cases e
    | cons b k => cases k with
      | nil => exact h B H _ _ _ _ w s a b e
      | cons c k => cases e
def wLen : D → Option W
  | .list ds => some (.sh (.int ds.length))
  | .dict kvs => bo (scrOf kvs) fun ns => some (.sh (.int ns.length))
  | .tuple ds => some (.sh (.int ds.length))
  | .str z => if smallLen z.length = true then some (.sh (.int z.length)) else none
  | _ => none
theorem len_X : CallX X (.builtin "len") (c1 wLen) := by
  refine ⟨_, call_len_seq.or call_len_str, cw1 fun B H x a w s ha e => ?_⟩
  cases a with
  | list ds =>
    cases e
    obtain ⟨p, vs, rfl, h2, z1, k1⟩ := ha.list s
    refine PR.val s (.int _) fun Q q => .inl ⟨p, vs, rfl, .inl (SqL.of h2), ?_⟩
    rw [k1.length]; exact q
  | dict kvs =>
    obtain ⟨ns, h1, e⟩ := bo_inv (show bo (scrOf kvs) _ = some w from e)
    cases e
    obtain ⟨p, rfl, h2, z1⟩ := ha.scr s h1
    refine PR.val s (.int _) fun Q q => .inl ⟨p, ns.map V.int, rfl, .inl (.inl h2), ?_⟩
    rw [List.length_map]; exact q
  | tuple ds =>
    cases e
    obtain ⟨p, vs, rfl, h2, z1, k1⟩ := ha.tuple s
    refine PR.val s (.int _) fun Q q => .inl ⟨p, vs, rfl, .inr (SqT.of h2), ?_⟩
    rw [k1.length]; exact q
  | str z =>
    have e : (if smallLen z.length = true then some (W.sh (.int z.length)) else none) = some w := e
    by_cases hz : smallLen z.length = true
    · rw [if_pos hz] at e
      cases e; cases ha.str
      exact PR.val s (.int _) fun Q q => .inr ⟨z, rfl, by have := sl_line hz; omega, q⟩
    · rw [if_neg hz] at e; cases e
  | _ => cases e
def wAbs : D → Option W
  | .int i => some (.sh (.int (if i < 0 then -i else i)))
  | _ => none
theorem abs_X : CallX X (.builtin "abs") (c1 wAbs) := ⟨_, call_abs, cw1 fun B H x a w s ha e => by
  cases a with
  | int i => cases e; cases ha.int; exact PR.val s (.int _) fun Q q => ⟨i, rfl, q⟩
  | _ => cases e⟩
def wInt : D → Option W
  | .int i => some (.sh (.int i))
  | .bool b => some (.sh (.int (if b = true then 1 else 0)))
  | _ => none
theorem int_X : CallX X (.type "int") (c1 wInt) := ⟨_, call_int1, cw1 fun B H x a w s ha e => by
  cases a with
  | int i => cases e; cases ha.int; exact PR.val s (.int _) fun Q q => .inl ⟨i, rfl, q⟩
  | bool b => cases e; cases ha.bool; exact PR.val s (.int _) fun Q q => .inr ⟨b, rfl, q⟩
  | _ => cases e⟩
/-- max, min of two, or of a list -/
def lMax : Int → List Int → Int
  | m, [] => m
  | m, x :: r => lMax (if x > m then x else m) r
def lMin : Int → List Int → Int
  | m, [] => m
  | m, x :: r => lMin (if x < m then x else m) r
theorem lMax_spec : ∀ (r : List Int) (m : Int), (lMax m r = m ∨ lMax m r ∈ r) ∧ m ≤ lMax m r ∧ ∀ y ∈ r, y ≤ lMax m r
  | [], m => ⟨.inl rfl, Int.le_refl _, fun _ h => by simp at h⟩
  | x :: r, m => by
    obtain ⟨h1, h2, h3⟩ := lMax_spec r (if x > m then x else m)
    have e : lMax m (x :: r) = lMax (if x > m then x else m) r := rfl
    rw [e]
    refine ⟨?_, ?_, fun y hy => ?_⟩
    · rcases h1 with h1 | h1
      · rw [h1]; by_cases c : x > m
        · rw [if_pos c]; exact .inr List.mem_cons_self
        · rw [if_neg c]; exact .inl rfl
      · exact .inr (List.mem_cons_of_mem _ h1)
    · by_cases c : x > m
      · rw [if_pos c] at h2 ⊢; omega
      · rw [if_neg c] at h2 ⊢; exact h2
    · rcases List.mem_cons.mp hy with rfl | hy
      · by_cases c : y > m
        · rw [if_pos c] at h2 ⊢; exact h2
        · rw [if_neg c] at h2 ⊢; omega
      · exact h3 y hy
theorem lMin_spec : ∀ (r : List Int) (m : Int), (lMin m r = m ∨ lMin m r ∈ r) ∧ lMin m r ≤ m ∧ ∀ y ∈ r, lMin m r ≤ y
  | [], m => ⟨.inl rfl, Int.le_refl _, fun _ h => by simp at h⟩
  | x :: r, m => by
    obtain ⟨h1, h2, h3⟩ := lMin_spec r (if x < m then x else m)
    have e : lMin m (x :: r) = lMin (if x < m then x else m) r := rfl
    rw [e]
    refine ⟨?_, ?_, fun y hy => ?_⟩
    · rcases h1 with h1 | h1
      · rw [h1]; by_cases c : x < m
        · rw [if_pos c]; exact .inr List.mem_cons_self
        · rw [if_neg c]; exact .inl rfl
      · exact .inr (List.mem_cons_of_mem _ h1)
    · by_cases c : x < m
      · rw [if_pos c] at h2 ⊢; omega
      · rw [if_neg c] at h2 ⊢; exact h2
    · rcases List.mem_cons.mp hy with rfl | hy
      · by_cases c : y < m
        · rw [if_pos c] at h2 ⊢; exact h2
        · rw [if_neg c] at h2 ⊢; omega
      · exact h3 y hy
def wMax : List D → Option W
  | [.int i, .int j] => some (.sh (.int (if j > i then j else i)))
  | [.list ds] => bo (intsOf ds) fun ns => match ns with
    | [] => none
    | m :: r => some (.sh (.int (lMax m r)))
  | _ => none
def wMin : List D → Option W
  | [.int i, .int j] => some (.sh (.int (if j < i then j else i)))
  | [.list ds] => bo (intsOf ds) fun ns => match ns with
    | [] => none
    | m :: r => some (.sh (.int (lMin m r)))
  | _ => none
theorem max_X (hc : X.calm = true) : CallX X (.builtin "max") wMax := by
  refine ⟨_, (call_max2 hc).or (cr_max hc), fun B H xs ds w s k e => ?_⟩
  match xs, ds, k with
  | [x], [.list es], .cons ha .nil =>
    obtain ⟨ns, h1, e⟩ := bo_inv (show bo (intsOf es) _ = some w from e)
    obtain ⟨p, vs, rfl, h2, z1, k1⟩ := ha.list s
    have hv := k1.vints h1
    subst hv
    cases ns with
    | nil => cases e
    | cons m r =>
      cases e
      refine PR.val s (.int _) fun Q q => .inr ⟨p, m :: r, rfl, SqL.of h2, Nat.succ_pos _, fun u hu hle => ?_⟩
      obtain ⟨a1, a2, a3⟩ := lMax_spec r m
      have : u = lMax m r := by
        apply Int.le_antisymm
        · rcases List.mem_cons.mp hu with rfl | hu
          · exact a2
          · exact a3 u hu
        · rcases a1 with a1 | a1
          · rw [a1]; exact hle m List.mem_cons_self
          · exact hle _ (List.mem_cons_of_mem _ a1)
      rw [this]; exact q
  | [x, y], [.int i, .int j], .cons ha (.cons hb .nil) =>
    cases e; cases ha.int; cases hb.int
    exact PR.val s (.int _) fun Q q => .inl ⟨i, j, rfl, q⟩
  | _, [], _ => cases e
  | _, [.none], _ => cases e
  | _, [.bool _], _ => cases e
  | _, [.int _], _ => cases e
  | _, [.str _], _ => cases e
  | _, [.tuple _], _ => cases e
  | _, [.dict _], _ => cases e
  | _, .int _ :: .int _ :: _ :: _, _ => cases e
  | _, a1 :: b1 :: c1 :: r1, _ => cases a1 <;> first | (cases e; done) | (cases b1 <;> cases e)
  | _, [.none, _], _ => cases e
  | _, [.bool _, _], _ => cases e
  | _, [.str _, _], _ => cases e
  | _, [.list _, _], _ => cases e
  | _, [.tuple _, _], _ => cases e
  | _, [.dict _, _], _ => cases e
  | _, [.int _, .none], _ => cases e
  | _, [.int _, .bool _], _ => cases e
  | _, [.int _, .str _], _ => cases e
  | _, [.int _, .list _], _ => cases e
  | _, [.int _, .tuple _], _ => cases e
  | _, [.int _, .dict _], _ => cases e
theorem min_X (hc : X.calm = true) : CallX X (.builtin "min") wMin := by
  refine ⟨_, (call_min2 hc).or (cr_min hc), fun B H xs ds w s k e => ?_⟩
  match xs, ds, k with
  | [x], [.list es], .cons ha .nil =>
    obtain ⟨ns, h1, e⟩ := bo_inv (show bo (intsOf es) _ = some w from e)
    obtain ⟨p, vs, rfl, h2, z1, k1⟩ := ha.list s
    have hv := k1.vints h1
    subst hv
    cases ns with
    | nil => cases e
    | cons m r =>
      cases e
      refine PR.val s (.int _) fun Q q => .inr ⟨p, m :: r, rfl, SqL.of h2, Nat.succ_pos _, fun u hu hle => ?_⟩
      obtain ⟨a1, a2, a3⟩ := lMin_spec r m
      have : u = lMin m r := by
        apply Int.le_antisymm
        · rcases a1 with a1 | a1
          · rw [a1]; exact hle m List.mem_cons_self
          · exact hle _ (List.mem_cons_of_mem _ a1)
        · rcases List.mem_cons.mp hu with rfl | hu
          · exact a2
          · exact a3 u hu
      rw [this]; exact q
  | [x, y], [.int i, .int j], .cons ha (.cons hb .nil) =>
    cases e; cases ha.int; cases hb.int
    exact PR.val s (.int _) fun Q q => .inl ⟨i, j, rfl, q⟩
  | _, [], _ => cases e
  | _, [.none], _ => cases e
  | _, [.bool _], _ => cases e
  | _, [.int _], _ => cases e
  | _, [.str _], _ => cases e
  | _, [.tuple _], _ => cases e
  | _, [.dict _], _ => cases e
  | _, .int _ :: .int _ :: _ :: _, _ => cases e
  | _, a1 :: b1 :: c1 :: r1, _ => cases a1 <;> first | (cases e; done) | (cases b1 <;> cases e)
  | _, [.none, _], _ => cases e
  | _, [.bool _, _], _ => cases e
  | _, [.str _, _], _ => cases e
  | _, [.list _, _], _ => cases e
  | _, [.tuple _, _], _ => cases e
  | _, [.dict _, _], _ => cases e
  | _, [.int _, .none], _ => cases e
  | _, [.int _, .bool _], _ => cases e
  | _, [.int _, .str _], _ => cases e
  | _, [.int _, .list _], _ => cases e
  | _, [.int _, .tuple _], _ => cases e
  | _, [.int _, .dict _], _ => cases e
def wSum : D → Option W
  | .list ds => bo (intsOf ds) fun ns => some (.sh (.int ns.sum))
  | _ => none
theorem sum_X (hc : X.calm = true) : CallX X (.builtin "sum") (c1 wSum) := ⟨_, cr_sum hc, cw1 fun B H x a w s ha e => by
  cases a with
  | list ds =>
    obtain ⟨ns, h1, e⟩ := bo_inv (show bo (intsOf ds) _ = some w from e)
    cases e
    obtain ⟨p, vs, rfl, h2, z1, k1⟩ := ha.list s
    have hv := k1.vints h1
    subst hv
    exact PR.val s (.int _) fun Q q => ⟨p, ns, rfl, SqL.of h2, q⟩
  | _ => cases e⟩
def wAll : D → Option W
  | .list ds => bo (boolsOf ds) fun ns => some (.sh (.bool (ns.all id)))
  | _ => none
def wAny : D → Option W
  | .list ds => bo (boolsOf ds) fun ns => some (.sh (.bool (ns.any id)))
  | _ => none
theorem all_X (hc : X.calm = true) : CallX X (.builtin "all") (c1 wAll) := ⟨_, cr_all hc, cw1 fun B H x a w s ha e => by
  cases a with
  | list ds =>
    obtain ⟨ns, h1, e⟩ := bo_inv (show bo (boolsOf ds) _ = some w from e)
    cases e
    obtain ⟨p, vs, rfl, h2, z1, k1⟩ := ha.list s
    have hv := k1.vbools h1
    subst hv
    exact PR.val s (.bl _) fun Q q => ⟨p, ns, rfl, SqL.of h2, q⟩
  | _ => cases e⟩
theorem any_X (hc : X.calm = true) : CallX X (.builtin "any") (c1 wAny) := ⟨_, cr_any hc, cw1 fun B H x a w s ha e => by
  cases a with
  | list ds =>
    obtain ⟨ns, h1, e⟩ := bo_inv (show bo (boolsOf ds) _ = some w from e)
    cases e
    obtain ⟨p, vs, rfl, h2, z1, k1⟩ := ha.list s
    have hv := k1.vbools h1
    subst hv
    exact PR.val s (.bl _) fun Q q => ⟨p, ns, rfl, SqL.of h2, q⟩
  | _ => cases e⟩
/-- sorted ints -/
def srt (ns : List Int) : List Int := ns.mergeSort fun a b => decide (a ≤ b)
theorem srt_perm (ns : List Int) : (srt ns).Perm ns := List.mergeSort_perm ..
theorem srt_sorted (ns : List Int) : (srt ns).Pairwise (· ≤ ·) := by
  have h := List.pairwise_mergeSort (le := fun (a b : Int) => decide (a ≤ b)) (fun a b c h1 h2 => by simp at *; omega) (fun a b => by simp; omega) ns
  exact h.imp fun h => of_decide_eq_true h
theorem perm_sorted_eq : ∀ {xs ys : List Int}, xs.Perm ys → xs.Pairwise (· ≤ ·) → ys.Pairwise (· ≤ ·) → xs = ys
  | [], ys, p, _, _ => by rw [List.nil_perm.mp p]
  | x :: xs, [], p, _, _ => by simp at p
  | x :: xs, y :: ys, p, h, k => by
    obtain ⟨h1, h2⟩ := List.pairwise_cons.mp h
    obtain ⟨k1, k2⟩ := List.pairwise_cons.mp k
    have e : x = y := by
      have a : x ∈ y :: ys := p.mem_iff.mp List.mem_cons_self
      have b : y ∈ x :: xs := p.mem_iff.mpr List.mem_cons_self
      apply Int.le_antisymm
      · rcases List.mem_cons.mp b with q | q
        · omega
        · exact h1 y q
      · rcases List.mem_cons.mp a with q | q
        · omega
        · exact k1 x q
    subst e
    rw [perm_sorted_eq (List.perm_cons x |>.mp p) h2 k2]
def wSorted : D → Option W
  | .list ds => bo (intsOf ds) fun ns => some (.ow ((srt ns).map .int))
  | _ => none
theorem sorted_X : CallX X (.builtin "sorted") (c1 wSorted) := ⟨_, cr_sortedI, cw1 fun B H x a w s ha e => by
  cases a with
  | list ds =>
    obtain ⟨ns, h1, e⟩ := bo_inv (show bo (intsOf ds) _ = some w from e)
    cases e
    obtain ⟨p, vs, rfl, h2, z1, k1⟩ := ha.list s
    have hv := k1.vints h1
    subst hv
    refine fun Q qq => ⟨p, ns, rfl, SqL.of h2, fun ns' l pm so hl => ?_⟩
    have : ns' = srt ns := perm_sorted_eq (pm.trans (srt_perm ns).symm) so (srt_sorted ns)
    subst this
    exact new_list s (DVs.of_ints _) (by rw [List.length_map, (srt_perm ns).length_eq]; rw [List.length_map] at z1; exact z1) Q qq l hl
  | _ => cases e⟩
/-- list(..), tuple(..) -/
def wList : D → Option W
  | .list ds => some (.ow ds)
  | .tuple ds => some (.ow ds)
  | _ => none
theorem list_X : CallX X (.type "list") (c1 wList) := ⟨_, call_list_of, cw1 fun B H x a w s ha e => by
  cases a with
  | list ds =>
    cases e
    obtain ⟨p, vs, rfl, h2, z1, k1⟩ := ha.list s
    exact fun Q q => ⟨p, vs, rfl, .inl (SqL.of h2), new_list s k1 z1 Q q⟩
  | tuple ds =>
    cases e
    obtain ⟨p, vs, rfl, h2, z1, k1⟩ := ha.tuple s
    exact fun Q q => ⟨p, vs, rfl, .inr (SqT.of h2), new_list s k1 z1 Q q⟩
  | _ => cases e⟩
def wTuple : D → Option W
  | .list ds => some (.sh (.tuple ds))
  | _ => none
theorem tuple_X : CallX X (.type "tuple") (c1 wTuple) := ⟨_, call_tuple_of, cw1 fun B H x a w s ha e => by
  cases a with
  | list ds =>
    cases e
    obtain ⟨p, vs, rfl, h2, z1, k1⟩ := ha.list s
    exact fun Q q => ⟨p, vs, rfl, .inl ⟨SqL.of h2, new_tup s k1 z1 Q q⟩⟩
  | _ => cases e⟩
/-- math.gcd -/
def wGcd : D → D → Option W
  | .int i, .int j => some (.sh (.int ((Nat.gcd i.natAbs j.natAbs : Nat) : Int)))
  | _, _ => none
theorem gcd_X : CallX X (.builtin "math.gcd") (c2 wGcd) := ⟨_, cr_gcd, cw2 fun B H x y a b w s ha hb e => by
  cases a with
  | int i => cases b with
    | int j => cases e; cases ha.int; cases hb.int; exact PR.val s (.int _) fun Q q => ⟨i, j, rfl, q⟩
    | _ => cases e
  | _ => cases e⟩
/-! #### isinstance -/
def tyN : D → String
  | .none => "NoneType"
  | .bool _ => "bool"
  | .int _ => "int"
  | .str _ => "str"
  | .list _ => "list"
  | .tuple _ => "tuple"
  | .dict _ => "dict"
def noScr : D → Bool
  | .dict _ => false
  | _ => true
theorem DV.ty {K : PySem.W.Frag} {H : Hp} {v : V} {d : D} (h : DV H v d) (n : noScr d = true) : TyX K H v (.type (tyN d)) := by
  cases h with
  | non => exact .base .non
  | bl b => exact .base (.bl b)
  | int i => exact .base (.int i)
  | str x => exact .base (.str x)
  | lst h _ _ => exact .base (.lst h)
  | tup h _ _ => exact .base (.tup h)
  | scr _ _ _ => cases n
/-- p tells of each datum whether it is of the class T -/
def TyP (T : String) (p : D → Bool) : Prop := ∀ d, kitB (tyN d) T = some (p d)
def isInt : D → Bool
  | .int _ => true
  | .bool _ => true
  | _ => false
def isBool : D → Bool
  | .bool _ => true
  | _ => false
def isStr : D → Bool
  | .str _ => true
  | _ => false
def isList : D → Bool
  | .list _ => true
  | _ => false
def isTuple : D → Bool
  | .tuple _ => true
  | _ => false
def isDict : D → Bool
  | .dict _ => true
  | _ => false
theorem ty_int : TyP "int" isInt := fun d => match d with
  | .none => (by decide +kernel : kitB "NoneType" "int" = some false)
  | .bool _ => (by decide +kernel : kitB "bool" "int" = some true)
  | .int _ => (by decide +kernel : kitB "int" "int" = some true)
  | .str _ => (by decide +kernel : kitB "str" "int" = some false)
  | .list _ => (by decide +kernel : kitB "list" "int" = some false)
  | .tuple _ => (by decide +kernel : kitB "tuple" "int" = some false)
  | .dict _ => (by decide +kernel : kitB "dict" "int" = some false)
theorem ty_bool : TyP "bool" isBool := fun d => match d with
  | .none => (by decide +kernel : kitB "NoneType" "bool" = some false)
  | .bool _ => (by decide +kernel : kitB "bool" "bool" = some true)
  | .int _ => (by decide +kernel : kitB "int" "bool" = some false)
  | .str _ => (by decide +kernel : kitB "str" "bool" = some false)
  | .list _ => (by decide +kernel : kitB "list" "bool" = some false)
  | .tuple _ => (by decide +kernel : kitB "tuple" "bool" = some false)
  | .dict _ => (by decide +kernel : kitB "dict" "bool" = some false)
theorem ty_str : TyP "str" isStr := fun d => match d with
  | .none => (by decide +kernel : kitB "NoneType" "str" = some false)
  | .bool _ => (by decide +kernel : kitB "bool" "str" = some false)
  | .int _ => (by decide +kernel : kitB "int" "str" = some false)
  | .str _ => (by decide +kernel : kitB "str" "str" = some true)
  | .list _ => (by decide +kernel : kitB "list" "str" = some false)
  | .tuple _ => (by decide +kernel : kitB "tuple" "str" = some false)
  | .dict _ => (by decide +kernel : kitB "dict" "str" = some false)
theorem ty_list : TyP "list" isList := fun d => match d with
  | .none => (by decide +kernel : kitB "NoneType" "list" = some false)
  | .bool _ => (by decide +kernel : kitB "bool" "list" = some false)
  | .int _ => (by decide +kernel : kitB "int" "list" = some false)
  | .str _ => (by decide +kernel : kitB "str" "list" = some false)
  | .list _ => (by decide +kernel : kitB "list" "list" = some true)
  | .tuple _ => (by decide +kernel : kitB "tuple" "list" = some false)
  | .dict _ => (by decide +kernel : kitB "dict" "list" = some false)
theorem ty_tuple : TyP "tuple" isTuple := fun d => match d with
  | .none => (by decide +kernel : kitB "NoneType" "tuple" = some false)
  | .bool _ => (by decide +kernel : kitB "bool" "tuple" = some false)
  | .int _ => (by decide +kernel : kitB "int" "tuple" = some false)
  | .str _ => (by decide +kernel : kitB "str" "tuple" = some false)
  | .list _ => (by decide +kernel : kitB "list" "tuple" = some false)
  | .tuple _ => (by decide +kernel : kitB "tuple" "tuple" = some true)
  | .dict _ => (by decide +kernel : kitB "dict" "tuple" = some false)
theorem ty_dict : TyP "dict" isDict := fun d => match d with
  | .none => (by decide +kernel : kitB "NoneType" "dict" = some false)
  | .bool _ => (by decide +kernel : kitB "bool" "dict" = some false)
  | .int _ => (by decide +kernel : kitB "int" "dict" = some false)
  | .str _ => (by decide +kernel : kitB "str" "dict" = some false)
  | .list _ => (by decide +kernel : kitB "list" "dict" = some false)
  | .tuple _ => (by decide +kernel : kitB "tuple" "dict" = some false)
  | .dict _ => (by decide +kernel : kitB "dict" "dict" = some true)
def wTy (p : D → Bool) (d : D) : Option W := if noScr d = true then some (.sh (.bool (p d))) else none
theorem wTy_inv {p : D → Bool} {d : D} {w : W} (h : wTy p d = some w) : noScr d = true ∧ w = .sh (.bool (p d)) := by
  unfold wTy at h
  split at h
  · rename_i c; exact ⟨c, by cases h; rfl⟩
  · cases h
@[simp] theorem wTy_n (p : D → Bool) : wTy p .none = some (.sh (.bool (p .none))) := nrfl rfl
@[simp] theorem wTy_b (p : D → Bool) (b : Bool) : wTy p (.bool b) = some (.sh (.bool (p (.bool b)))) := nrfl rfl
@[simp] theorem wTy_i (p : D → Bool) (b : Int) : wTy p (.int b) = some (.sh (.bool (p (.int b)))) := nrfl rfl
@[simp] theorem wTy_s (p : D → Bool) (b : Str) : wTy p (.str b) = some (.sh (.bool (p (.str b)))) := nrfl rfl
@[simp] theorem wTy_l (p : D → Bool) (b : List D) : wTy p (.list b) = some (.sh (.bool (p (.list b)))) := nrfl rfl
@[simp] theorem wTy_t (p : D → Bool) (b : List D) : wTy p (.tuple b) = some (.sh (.bool (p (.tuple b)))) := nrfl rfl
theorem gw_isi {K : PySem.W.Frag} {T : String} {p : D → Bool} {ta : TE} {f : Env → Option (Opd × Env)} (hp : TyP T p) (ha : GO ta f) : GW (tCB (rIsi K) (tCons ta (tCons (tC (.ty T)) tNil))) (eU (wTy p) f) := fun B H O σ env rp w env' e Q q => by
  obtain ⟨a, e1, h1, e⟩ := bd_inv e
  obtain ⟨x, h3, e⟩ := bo_inv e
  obtain ⟨z, h5, e⟩ := bo_inv e
  obtain ⟨ns, h5⟩ := wTy_inv h5
  cases e; cases h5
  refine ha B H O σ env rp a _ h1 _ fun v B1 H1 O1 g1 r1 k1 => ?_
  exact ⟨v, .ty T, .type (tyN x), .type T, p x, rfl, .ty T, (((k1.bv r1 h3).dv r1.sub)).ty ns, kit_ty (hp x), q _ [] B1 H1 O1 g1 r1 (wr_sh (.bl _))⟩
def tTys : List String → TA
  | [] => tNil
  | T :: r => tCons (tC (.ty T)) (tTys r)
theorem tTys_run {σ : L2.St} {H : Hp} : ∀ (Ts : List String) (Q : List V → Hp → Prop), Q (Ts.map V.ty) H → tTys Ts σ H Q
  | [], Q, q => q
  | T :: r, Q, q => tTys_run r _ q
inductive TysP : List String → List (D → Bool) → Prop
  | nil : TysP [] []
  | cons {T : String} {p : D → Bool} {Ts : List String} {ps : List (D → Bool)} : TyP T p → TysP Ts ps → TysP (T :: Ts) (p :: ps)
theorem TysP.any {K : PySem.W.Frag} {d : D} : ∀ {Ts : List String} {ps : List (D → Bool)}, TysP Ts ps → PySem.W.kitAny K (.type (tyN d)) (Ts.map Value.type) = some (ps.any fun p => p d)
  | _, _, .nil => rfl
  | _, _, .cons (p := p) (ps := ps) h hs => by
    have ih := TysP.any (K := K) (d := d) hs
    rw [List.map_cons, List.any_cons]
    refine kitAny_cons (b := p d) (kit_ty (h d)) (fun hb => by rw [hb, ih]; rfl) fun hb => by rw [hb]; rfl
theorem TysP.cls : ∀ (Ts : List String), Paired ClsV (Ts.map V.ty) (Ts.map Value.type)
  | [] => .nil
  | T :: r => .cons (.ty T) (TysP.cls r)
theorem gw_isiT {K : PySem.W.Frag} {Ts : List String} {ps : List (D → Bool)} {ta : TE} {f : Env → Option (Opd × Env)} (hp : TysP Ts ps) (hz : Ts.length < 1000) (ha : GO ta f) : GW (tCB (rIsiT K) (tCons ta (tCons (tTup (tTys Ts)) tNil))) (eU (wTy fun d => ps.any fun p => p d) f) := fun B H O σ env rp w env' e Q q => by
  obtain ⟨a, e1, h1, e⟩ := bd_inv e
  obtain ⟨x, h3, e⟩ := bo_inv e
  obtain ⟨z, h5, e⟩ := bo_inv e
  obtain ⟨ns, h5⟩ := wTy_inv h5
  cases e; cases h5
  refine ha B H O σ env rp a _ h1 _ fun v B1 H1 O1 g1 r1 k1 => tTys_run Ts _ ⟨by rw [List.length_map]; exact sz1000 hz, fun p hn => ?_⟩
  have x1 : Ex H1 (upd H1 p (.tup (Ts.map V.ty))) := Ex.new hn
  exact ⟨v, p, Ts.map V.ty, .type (tyN x), Ts.map Value.type, _, rfl, upd_same, TysP.cls Ts, ((((k1.bv r1 h3).dv r1.sub)).mono x1).ty ns, hp.any, q _ [] B1 _ O1 (g1.trans (gr_ext x1)) (r1.ext x1) (wr_sh (.bl _))⟩
end
end Z

set_option Elab.async false
set_option linter.all false
set_option maxRecDepth 100000
set_option maxHeartbeats 4000000
/-! Z6: defs called where no repr is under way; the rules over whole contexts. -/
namespace Z
open PySem PySem.Spec PyProof.Rows L2
open Evl (Ex)

/-! ### a def's promise, no repr being under way -/
structure FnG (P : Program) (w : World) (K : PySem.W.Frag) (mg : Str → Option Value) (base : Heap) (CX : CXT) (k : Nat) (f : Addr) (fd : FuncData) (ps : List Str) (sp : Sp) : Prop where
  len : ∀ zs H Q E, sp zs H Q E → zs.length = ps.length
  run : ∀ (A : Around) (out : List PySem.Env) (s : Shared) (H : Hp) (args : Args) (us : List Value) (zs : List V) (Q : VK) (E : XK),
    Room k A → A.guards = some [] → Env0 P w K mg base A out s H → BindsTo s fd args (ps.zip us) → Vals zs us → sp zs H Q E → codeAny (model P w) A (.call (.ref f) args) (CR CX out P w H s Q E) s
theorem FnG.up {P : Program} {w : World} {K : PySem.W.Frag} {mg : Str → Option Value} {base : Heap} {CX : CXT} {i j : Nat} {f : Addr} {fd : FuncData} {ps : List Str} {sp : Sp} (F : FnG P w K mg base CX i f fd ps sp) (h : i ≤ j) : FnG P w K mg base CX j f fd ps sp :=
  ⟨F.len, fun A out s H args us zs Q E room => F.run A out s H args us zs Q E (room.mono h)⟩
/-- a weaker promise -/
theorem FnG.to {P : Program} {w : World} {K : PySem.W.Frag} {mg : Str → Option Value} {base : Heap} {CX : CXT} {i : Nat} {f : Addr} {fd : FuncData} {ps : List Str} {sp sq : Sp} (F : FnG P w K mg base CX i f fd ps sp) (h : ∀ zs H Q E, sq zs H Q E → sp zs H Q E) : FnG P w K mg base CX i f fd ps sq :=
  ⟨fun zs H Q E z => F.len zs H Q E (h _ _ _ _ z), fun A out s H args us zs Q E room g e b v z => F.run A out s H args us zs Q E room g e b v (h _ _ _ _ z)⟩
section
variable {X : Cx} {CX : CXT} {k : Nat} {f : Addr} {fd : FuncData} {ps ks : List Str} {sp : Sp} {E : XK} {x : Str} {p pos : Pos} {e : Expr} {es : List Expr} {kws : List Keyword} {t tk : TA}
theorem call_G {pins : List (Addr × Obj)} {σ : L2.St} {H : Hp} {s : Shared} {Q : VK} {args : Args} {us : List Value} {zs : List V} (F : FnG X.prog X.w X.K X.mg X.base CX k f fd ps sp) (room : Room k X.A) (gu : X.A.guards = some []) (hx : Passes CX X E) (I : Inv X pins σ H s)
    (hb : BindsTo s fd args (ps.zip us)) (r : Vals zs us) (h : sp zs H Q E) : codeAny (model X.prog X.w) X.A (.call (.ref f) args) (fun r s' => match r with
      | .ok (.ret u) => EP X pins σ Q u s'
      | .ok _ => False
      | .error z => X.xe z s') s := by
  refine codeAny_mono (F.run X.A X.stack s H args us zs Q E room gu I.env0 hb r h) fun res s' got => ?_
  match res, got with
  | .ok (.ret u), got => exact I.after got
  | .error z, got => exact hx pins σ H s z s' I got
theorem call_W {pins : List (Addr × Obj)} {σ : L2.St} {H : Hp} {s : Shared} {Q : VK} {vs ws us : List Value} {kn : List Str} {zs : List V} (F : FnG X.prog X.w X.K X.mg X.base CX k f fd ps sp) (room : Room k X.A) (gu : X.A.guards = some []) (hx : Passes CX X E) (I : Inv X pins σ H s)
    (hb : BindsTo s fd ⟨vs, kn.zip ws⟩ (ps.zip us)) (r : Vals zs us) (h : sp zs H Q E) : wpAny (model X.prog X.w) X.A (call (.ref f) vs (kn.zip ws)) (EP X pins σ Q) X.xe s := by
  refine wpAny_call (codeAny_mono (call_G F room gu hx I hb r h) fun res s' got => ?_)
  match res, got with
  | .ok (.ret u), got => exact got
  | .error z, got => exact got
/-- f(e, ..) -/
theorem pe_callG {dvs : List V} {dls : List Value} (F : FnG X.prog X.w X.K X.mg X.base CX k f fd ps sp) (room : Room k X.A) (gu : X.A.guards = some []) (hg : Gl X x) (hm : X.mg x = some (.ref f)) (hk : PySem.W.keepIn X.K (.ref f) = true) (hb : Binds X.K fd ps dls) (hd : Vals dvs dls) (hx : Passes CX X E)
    (ha : PA X (e :: es) t) (nd : (x == ("__debug__" : Str)) = false := by decide) (he : starEach (e :: es) X.env = (false, eval e X.env) :: starEach es X.env := by rfl) (hpl : (backTo pos (starEach es X.env)).any (·.1) = false := by rfl) :
    PE X (.Call (.Name x p) (e :: es) [] pos) (tCall sp dvs E t) := by
  refine ⟨fun pins s σ H Q I h => wpAny_Call_Name_kw (ld_glob I hg hm ?_ nd)⟩
  refine PySem.W.callWith_K (h₀ := X.base) I.ok.mod.kin hk (thn (ha.run pos pins s σ H _ I h) fun us s1 got => ?_) he hpl
  obtain ⟨zs, H1, I1, r1, q⟩ := got
  have rr := r1.append hd
  refine ⟨I1.kIn, call_W (kn := []) (ws := []) F room gu hx I1 (hb s1 us I1.kIn ?_) rr q⟩
  rw [← rr.length]
  exact F.len _ _ _ _ q
/-- f(k = e, ..), keywords alone; g brings their values in the parameters' order -/
def tCallKw (sp : Sp) (n : Nat) (g : List V → List V) (E : XK) (t : TA) : TE := fun σ H Q => t σ H fun zs H1 => zs.length = n ∧ sp (g zs) H1 Q E
structure KwB (K : PySem.W.Frag) (fd : FuncData) (ps ks : List Str) (g : List Value → List Value) (gV : List V → List V) : Prop where
  to : ∀ (s : Shared) (ws : List Value), K.In s.heap → ws.length = ks.length → BindsTo s fd ⟨[], ks.zip ws⟩ (ps.zip (g ws))
  rel : ∀ {zs : List V} {ws : List Value}, Vals zs ws → Vals (gV zs) (g ws)
theorem pe_callGK {g : List Value → List Value} {gV : List V → List V} (F : FnG X.prog X.w X.K X.mg X.base CX k f fd ps sp) (room : Room k X.A) (gu : X.A.guards = some []) (hg : Gl X x) (hm : X.mg x = some (.ref f)) (hk : PySem.W.keepIn X.K (.ref f) = true) (hb : KwB X.K fd ps ks g gV) (hx : Passes CX X E)
    (hkw : PK X kws tk) (hall : (backToKw pos (keywordEach kws X.env)).all (·.1.isSome) = true := by rfl) (hks : (backToKw pos (keywordEach kws X.env)).filterMap (·.1) = ks := by rfl) (nd : (x == ("__debug__" : Str)) = false := by decide)
    (hpl : ((backTo pos (starEach [] X.env)).any (·.1) || (backToKw pos (keywordEach kws X.env)).any (·.1.isNone)) = false := by rfl) :
    PE X (.Call (.Name x p) [] kws pos) (tCallKw sp ks.length gV E tk) := by
  refine ⟨fun pins s σ H Q I h => wpAny_Call_Name_kw (ld_glob I hg hm ?_ nd)⟩
  refine PySem.W.callWith_KW0 (h₀ := X.base) I.ok.mod.kin hk hall (thn (hkw.run pos pins s σ H _ I h) fun ws s1 got => ?_) hpl
  obtain ⟨zs, H1, I1, r1, hl, q⟩ := got
  rw [hks]
  exact ⟨I1.kIn, call_W F room gu hx I1 (hb.to s1 ws I1.kIn (by rw [← r1.length]; exact hl)) (hb.rel r1) q⟩
end
/-- a def of the text as it stands behind the top -/
structure FunZ (K : PySem.W.Frag) (x : Str) (st : Stmt) (f : Addr) (fd : FuncData) : Prop where
  ex : ∃ (oc : Value) (od : Option Addr) (dV kV doc pm : Value) (an : Option Addr) (cdv ct : Value) (osl : Array (Option Value)),
    fd = PySem.W.fnOf x x (defArgs st) (defBody st) (defScope st) dV kV doc pm an cdv ct ∧ K.lookup f = some ⟨oc, od, .func fd, osl⟩ ∧ PySem.W.codeIn K cdv x = true
  kp : PySem.W.keepIn K (.ref f) = true
theorem funZ_mk {K : PySem.W.Frag} {x : Str} {st : Stmt} {f : Addr} {oc : Value} {od an : Option Addr} {osl : Array (Option Value)} {dV kV doc pm cdv ct : Value} (l : K.lookup f = some ⟨oc, od, .func (PySem.W.fnOf x x (defArgs st) (defBody st) (defScope st) dV kV doc pm an cdv ct), osl⟩)
    (c : PySem.W.codeIn K cdv x = true) (k : PySem.W.keepIn K (.ref f) = true) : FunZ K x st f (PySem.W.fnOf x x (defArgs st) (defBody st) (defScope st) dV kV doc pm an cdv ct) := ⟨⟨oc, od, dV, kV, doc, pm, an, cdv, ct, osl, rfl, l, c⟩, k⟩
/-- the context of a def's body -/
abbrev bodyX (CX : CXT) (P : Program) (w : World) (K : PySem.W.Frag) (mg : Str → Option Value) (base : Heap) (N : List Str) (x : Str) (st : Stmt) (f : Addr) (cdv : Value) (A : Around) (out : List PySem.Env) (s : Shared) (H : Hp) (E : XK) : Cx :=
  cxOf CX P w K mg base N x (defScope st) f cdv A out s H E
section
variable {P : Program} {w : World} {K : PySem.W.Frag} {mg : Str → Option Value} {base : Heap}
theorem FunZ.run {CX : CXT} {x : Str} {st : Stmt} {f : Addr} {fd : FuncData} {N ps : List Str} {k : Nat} {sp : Sp} (F : FunZ K x st f fd) (S : FnScope N ps (defScope st)) (len : ∀ zs H Q E, sp zs H Q E → zs.length = ps.length)
    (hb : ∀ (cdv : Value) (A : Around) (out : List PySem.Env) (s : Shared) (H : Hp) (zs : List V) (Q : VK) (E : XK), Room k (A.deeper (envOfC x (defScope st) s.heap.objs.size f cdv)) → (A.deeper (envOfC x (defScope st) s.heap.objs.size f cdv)).guards = some [] → sp zs H Q E →
      ∃ t, PSs (bodyX CX P w K mg base N x st f cdv A out s H E) (defBody st) t ∧ t { nx := fun _ H' => Q .non H', rt := Q } (L2.start N zs) H) : FnG P w K mg base CX (k + 1) f fd ps sp := by
  obtain ⟨oc, od, dV, kV, doc, pm, an, cdv, ct, osl, rfl, lk, hcd⟩ := F.ex
  refine ⟨len, fun A out s H args us zs Q E room gu e0 hbind r hsp => ?_⟩
  have kept : ∀ b o, base.get? b = some o → s.heap.get? b = some o := fun b o z => (e0.bs b o z).1
  have inK : K.In s.heap := e0.mod.kin.keeps kept
  have nolim : s.heap.NoLimit := e0.mod.nolimit.keeps kept
  refine codeAny_call_function room.depth (inK _ _ lk) rfl S.co S.gen rfl (PySem.W.codeRec_of inK hcd) (hbind _ _ _ _ ?_)
  refine wpAny_newFunctionEnv_cells S.kind (fun y hy => ?_) fun env he s1 made => ?_
  · rcases S.par y.1 (List.of_mem_zip hy).1 with z | z
    · exact Or.inl z
    · exact Or.inr ⟨z, PySem.W.cellsFrom_some _ _ _ (Or.inl z)⟩
  · subst he
    refine ⟨nolim.keeps made.toInCall.keep, codeAny_func ?_⟩
    obtain ⟨t, ht, ha⟩ := hb cdv A out s H zs Q E (room.deeper _) gu hsp
    have I : Inv (bodyX CX P w K mg base N x st f cdv A out s H E) [] (L2.start N zs) H s1 := inv_start S room.hd e0 (len _ _ _ _ hsp) r made
    refine wpAny_mono (ht.run [] s1 _ H _ I ha) (fun fl s' got => ?_) fun _ _ z => z
    match fl, got with
    | .ret u, ⟨v, σ', H', J, rv, q⟩ => exact ⟨v, H', J.os, J.bare, J.base, J.hok, rv, q⟩
    | .next, ⟨σ', H', J, q⟩ => exact ⟨.non, H', J.os, J.bare, J.base, J.hok, rfl, q⟩
    | .brk, ⟨_, _, _, q⟩ => exact q.elim
    | .cont, ⟨_, _, _, q⟩ => exact q.elim
/-- no exception leaves -/
abbrev bodyN (P : Program) (w : World) (K : PySem.W.Frag) (mg : Str → Option Value) (base : Heap) (N : List Str) (x : Str) (st : Stmt) (f : Addr) (cdv : Value) (A : Around) (out : List PySem.Env) (s : Shared) (H : Hp) (E : XK) : Cx :=
  (bodyX CX0 P w K mg base N x st f cdv A out s H E).nox
theorem fn_G {x : Str} {st : Stmt} {f : Addr} {fd : FuncData} {N ps : List Str} {k n m : Nat} {fb : Env → Option (Fl × Env)} (F : FunZ K x st f fd) (S : FnScope N ps (defScope st)) (hn : ps.length = n) (hm : N.length = m)
    (hb : ∀ (cdv : Value) (A : Around) (out : List PySem.Env) (s : Shared) (H : Hp) (E : XK), Room k (A.deeper (envOfC x (defScope st) s.heap.objs.size f cdv)) → (A.deeper (envOfC x (defScope st) s.heap.objs.size f cdv)).guards = some [] → XSs (bodyN P w K mg base N x st f cdv A out s H E) (defBody st) fb) :
    FnG P w K mg base CX0 (k + 1) f fd ps (spF (runF n m fb)) := by
  have key : ∀ {ds : List D} {u : W}, runF n m fb ds = some u → ds.length = n := fun {ds u} h => by
    unfold runF at h
    split at h
    · assumption
    · cases h
  refine F.run S (fun vs H Q E h => ?_) (fun cdv A out s H vs Q E hr gu h => ?_)
  · obtain ⟨B, ds, u, _, k, e, _⟩ := h
    rw [k.length, key e, hn]
  · obtain ⟨B, ds, u, sub, kd, e, q⟩ := h
    obtain ⟨t, ht, gs⟩ := (hb cdv A out s H E hr gu).ex
    refine ⟨t, ht.nox, ?_⟩
    have hl := key e
    unfold runF at e
    rw [if_pos hl] at e
    have hst : L2.start N vs = vs.map some ++ List.replicate (m - n) none := by
      unfold L2.start
      rw [hm, kd.length, hl]
    have rep : Rep B H (L2.start N vs) (ds.map W.sh ++ List.replicate (m - n) .emp) [] := ⟨by rw [hst]; exact RL.args _ kd, List.nodup_nil, fun a z => by simp at z, sub⟩
    have pure : ∀ {B' H' O'}, Gr B H [] B' H' O' → Ex B' H' → Gp B H B' H' := fun {B' H' O'} g x => ⟨g.base, fun a o h => g.keep a o h (by simp), fun a h => (g.new a h).elim .inl fun z => z.elim (fun m => by simp at m) .inr, x⟩
    cases hf : fb (ds.map W.sh ++ List.replicate (m - n) .emp) with
    | none => rw [hf] at e; cases e
    | some r =>
      obtain ⟨fl, env'⟩ := r
      rw [hf] at e
      refine gs B H [] _ _ rep fl env' hf _ ?_
      cases fl with
      | nx =>
        cases e
        exact fun σ' B' H' O' g r => q .non [] B' H' (pure g r.sub) (nr_sh .non)
      | rt w1 =>
        cases e
        refine fun v A σ' B' H' O' g r k => q v A B' H' (pure g r.sub) ⟨k.sr, k.nd, fun a m => ⟨?_, k.fr a m⟩⟩
        rcases g.own a (List.mem_append_left _ m) with z | z
        · simp at z
        · exact z
      | bk => cases e
      | ct => cases e
theorem fn_GP {x : Str} {st : Stmt} {f : Addr} {fd : FuncData} {N ps : List Str} {k n m : Nat} {fb : Env → Option (Fl × Env)} {G : List D → List D → Option (W × List D)} (F : FunZ K x st f fd) (S : FnScope N ps (defScope st)) (hn : ps.length = n) (hm : N.length = m)
    (hG : ∀ p qs ds r, G qs ds = some r → runP n m fb p qs ds = some r)
    (hb : ∀ (cdv : Value) (A : Around) (out : List PySem.Env) (s : Shared) (H : Hp) (E : XK), Room k (A.deeper (envOfC x (defScope st) s.heap.objs.size f cdv)) → (A.deeper (envOfC x (defScope st) s.heap.objs.size f cdv)).guards = some [] → XSs (bodyN P w K mg base N x st f cdv A out s H E) (defBody st) fb) :
    FnG P w K mg base CX0 (k + 1) f fd ps (spP G) := by
  have key : ∀ {p : Addr} {qs ds : List D} {u : W × List D}, runP n m fb p qs ds = some u → ds.length + 1 = n := fun {p qs ds u} h => by
    unfold runP at h
    split at h
    · assumption
    · cases h
  refine F.run S (fun vs H Q E h => ?_) (fun cdv A out s H vs Q E hr gu h => ?_)
  · obtain ⟨p, vs', B, xs, qs, ds, u, qs', rfl, _, _, _, _, _, kd, e, _⟩ := h
    rw [List.length_cons, kd.length, key (hG p _ _ _ e), hn]
  · obtain ⟨p, vs', B, xs, qs, ds, u, qs', rfl, sub, hbp, hp, hz, kp, kd, e, q⟩ := h
    have e := hG p _ _ _ e
    obtain ⟨t, ht, gs⟩ := (hb cdv A out s H E hr gu).ex
    refine ⟨t, ht.nox, ?_⟩
    have hl := key e
    unfold runP at e
    rw [if_pos hl] at e
    have hst : L2.start N (.ref p :: vs') = some (.ref p) :: (vs'.map some ++ List.replicate (m - n) none) := by
      unfold L2.start
      rw [hm, List.length_cons, kd.length, hl]
      rfl
    have rep : Rep B H (L2.start N (.ref p :: vs')) (W.pu p qs :: (ds.map W.sh ++ List.replicate (m - n) .emp)) [p] := ⟨by rw [hst]; exact .cons (A := [p]) (.pu hp hz kp) (RL.args _ kd), by simp, (fun a z => by
      have : a = p := by simpa using z
      rw [this]; exact hbp), sub⟩
    have fin : ∀ {w1 : W} {env' : Env}, (bo (wP (get env' 0)) fun q => if q.1 = p then some (w1, q.2) else none) = some (u, qs') → w1 = u ∧ get env' 0 = .pu p qs' := fun {w1 env'} h => by
      obtain ⟨⟨p1, q1⟩, h1, h2⟩ := bo_inv h
      have h1 := wP_inv h1
      by_cases ep : p1 = p
      · subst ep
        rw [if_pos rfl] at h2
        cases h2
        exact ⟨rfl, h1⟩
      · rw [if_neg ep] at h2; cases h2
    cases hf : fb (W.pu p qs :: (ds.map W.sh ++ List.replicate (m - n) .emp)) with
    | none => rw [hf] at e; cases e
    | some r =>
      obtain ⟨fl, env'⟩ := r
      rw [hf] at e
      refine gs B H [p] _ _ rep fl env' hf _ ?_
      cases fl with
      | nx =>
        obtain ⟨rfl, h0⟩ := fin e
        refine fun σ' B' H' O' g r => ?_
        obtain ⟨c1, c2, xs', _, c3, c4, c5, _⟩ := r.purse h0
        exact q .non [] B' H' xs' (g.less fun a z => by
          have : a = p := by simpa using z
          rw [this]; exact c2) r.sub (r.fr p c2) c3 c4 c5 (wr_sh .non)
      | rt w1 =>
        obtain ⟨rfl, h0⟩ := fin e
        refine fun v A σ' B' H' O' g r k => ?_
        obtain ⟨c1, c2, xs', _, c3, c4, c5, _⟩ := r.purse h0
        refine q v A B' H' xs' (g.less fun a z => ?_) r.sub (r.fr p c2) c3 c4 c5 ⟨k.sr, k.nd, fun a m z => k.dj a m (by rw [List.mem_singleton.mp z]; exact c2), k.fr⟩
        rcases List.mem_append.mp z with z | z
        · exact List.mem_append_left _ z
        · rw [List.mem_singleton.mp z]; exact List.mem_append_right _ c2
      | bk => cases e
      | ct => cases e
end

/-- what a body computes whatever the address of the list that it changes -/
noncomputable def runU (n m : Nat) (fb : Env → Option (Fl × Env)) (ps ds : List D) : Option (W × List D) :=
  open Classical in if h : ∃ r, ∀ p, runP n m fb p ps ds = some r then some h.choose else none
theorem runU_run {n m : Nat} {fb : Env → Option (Fl × Env)} {ps ds : List D} {r : W × List D} (h : runU n m fb ps ds = some r) (p : Addr) : runP n m fb p ps ds = some r := by
  unfold runU at h
  split at h
  · rename_i hx
    cases h
    exact hx.choose_spec p
  · cases h
theorem runU_eq {n m : Nat} {fb : Env → Option (Fl × Env)} {ps ds : List D} {r : W × List D} (h : ∀ p, runP n m fb p ps ds = some r) : runU n m fb ps ds = some r := by
  have hx : ∃ r, ∀ p, runP n m fb p ps ds = some r := ⟨r, h⟩
  unfold runU
  rw [dif_pos hx, ← hx.choose_spec 0, h 0]

/-! ### repr -/
def shownOk (d : D) : Bool := d.showable && !d.hasDict && decide (d.depth < 50) && decide (d.shown.length ≤ 1000000)
end Z

set_option Elab.async false
set_option linter.all false
set_option maxRecDepth 100000
set_option maxHeartbeats 4000000
/-! Z7: repr; len of a set; what changes a list of one's own. -/
namespace Z
open PySem PySem.Spec PyProof.Rows L2
open Evl (Ex)

/-! ### repr -/
def wRepr : D → Option W
  | .list ds => if shownOk (.list ds) = true then some (.sh (.str (PyData.shown (.list ds)))) else none
  | .tuple ds => if shownOk (.tuple ds) = true then some (.sh (.str (PyData.shown (.tuple ds)))) else none
  | _ => none
def rRepr : List V → Hp → VK → Prop := fun xs H Q => ∃ a d, xs = [.ref a] ∧ DV H (.ref a) d ∧ shownOk d = true ∧ Q (.str d.shown) H
section
variable {X : Cx}
theorem shownOk_of {d : D} (h : shownOk d = true) : d.showable = true ∧ d.hasDict = false ∧ d.depth < 50 ∧ d.shown.length ≤ 1000000 := by
  unfold shownOk at h
  simp only [Bool.and_eq_true, Bool.not_eq_true', decide_eq_true_eq] at h
  exact ⟨h.1.1.1, h.1.1.2, h.1.2, h.2⟩
theorem cr_repr (hu : X.A.units + 64 < cLine) (gu : X.A.guards = some []) : CallR X (.builtin "repr") rRepr := by
  intro pins s σ H xs us Q I r h
  obtain ⟨a, d, rfl, dv, ok, q⟩ := h
  obtain ⟨s1, s2, s3, s4⟩ := shownOk_of ok
  obtain ⟨u, rfl, ru⟩ := vals1 r
  obtain ⟨as, rd⟩ := Dp.reads I d (.ref a) u (dv.dp s2) ru
  cases ru
  refine repr_of_reads' rd s1 (fun z => by rw [s2] at z; cases z) gu (by omega) (fun _ _ z => z) (fun h' v tk keep => ?_) (by show _ ≤ 2 ^ 24; omega)
  exact ⟨.str d.shown, H, I.kept keep, ⟨_, rfl⟩, q⟩
theorem repr_X (hu : X.A.units + 64 < cLine) (gu : X.A.guards = some []) : CallX X (.builtin "repr") (c1 wRepr) := ⟨_, cr_repr hu gu, cw1 fun B H x a w s ha e => by
  cases a with
  | list ds =>
    have e : (if shownOk (.list ds) = true then some (W.sh (.str (PyData.shown (.list ds)))) else none) = some w := e
    by_cases hz : shownOk (.list ds) = true
    · rw [if_pos hz] at e
      cases e
      obtain ⟨p, vs, rfl, h2, z1, k1⟩ := ha.list s
      exact PR.val s (.str _) fun Q q => ⟨p, .list ds, rfl, ha.dv s, hz, q⟩
    · rw [if_neg hz] at e; cases e
  | tuple ds =>
    have e : (if shownOk (.tuple ds) = true then some (W.sh (.str (PyData.shown (.tuple ds)))) else none) = some w := e
    by_cases hz : shownOk (.tuple ds) = true
    · rw [if_pos hz] at e
      cases e
      obtain ⟨p, vs, rfl, h2, z1, k1⟩ := ha.tuple s
      exact PR.val s (.str _) fun Q q => ⟨p, .tuple ds, rfl, ha.dv s, hz, q⟩
    · rw [if_neg hz] at e; cases e
  | _ => cases e⟩

/-! ### len(set(ints)), no two alike -/
def wLenSet : D → Option W
  | .list ds => bo (intsOf ds) fun ns => if decide ns.Nodup = true ∧ ns.length ≤ 4000 then some (.sh (.int ns.length)) else none
  | _ => none
theorem gw_lenSet {K : PySem.W.Frag} {te : TE} {f : Env → Option (Opd × Env)} (ha : GO te f) : GW (RZ.tLenSetI K te) (eU wLenSet f) := fun B H O σ env rp w env' e Q q => by
  obtain ⟨a, e1, h1, e⟩ := bd_inv e
  obtain ⟨x, h3, e⟩ := bo_inv e
  obtain ⟨z, h5, e⟩ := bo_inv e
  cases e
  refine ha B H O σ env rp a _ h1 _ fun v B1 H1 O1 g1 r1 k1 => ?_
  have bv := k1.bv r1 h3
  cases x with
  | list ds =>
    obtain ⟨ns, h6, h5⟩ := bo_inv (show bo (intsOf ds) _ = some w from h5)
    by_cases hz : decide ns.Nodup = true ∧ ns.length ≤ 4000
    · rw [if_pos hz] at h5
      cases h5
      obtain ⟨p, vs, rfl, h2, z1, k2⟩ := bv.list r1.sub
      have hv := k2.vints h6
      subst hv
      exact ⟨p, ns, rfl, SqL.of h2, of_decide_eq_true hz.1, hz.2, q _ [] B1 H1 O1 g1 r1 (wr_sh (.int _))⟩
    · rw [if_neg hz] at h5; cases h5
  | _ => cases h5

/-! ### a list of one's own is changed -/
def lstW : W → Option (List D)
  | .ow ds => some ds
  | .pu _ ds => some ds
  | _ => none
def setW (w : W) (ds : List D) : W := match w with
  | .pu a _ => .pu a ds
  | _ => .ow ds
@[simp] theorem lstW_ow (ds : List D) : lstW (.ow ds) = some ds := nrfl rfl
@[simp] theorem lstW_pu (a : Addr) (ds : List D) : lstW (.pu a ds) = some ds := nrfl rfl
@[simp] theorem setW_ow (ds es : List D) : setW (.ow ds) es = .ow es := nrfl rfl
@[simp] theorem setW_pu (a : Addr) (ds es : List D) : setW (.pu a ds) es = .pu a es := nrfl rfl
end
theorem Rep.lst {B H : Hp} {σ : List (Option V)} {env : Env} {O : List Addr} (r : Rep B H σ env O) {i : Nat} {ds : List D} (e : lstW (get env i) = some ds) :
    ∃ p xs, σ[i]? = some (some (.ref p)) ∧ H p = some (.lst xs) ∧ xs.length ≤ sizeLine ∧ DVs B xs ds ∧ ∀ ys es, ys.length ≤ sizeLine → DVs B ys es →
      Gr B H O B (upd H p (.lst ys)) O ∧ ∃ O', Rep B (upd H p (.lst ys)) σ (put env i (setW (get env i) es)) O' ∧ ∀ b ∈ O', b ∈ O := by
  obtain ⟨v, A, O', h1, h2, h3, h4, h5⟩ := r.take (i := i) (by intro z; rw [z] at e; cases e)
  cases g : get env i with
  | ow c =>
    rw [g] at e h2; cases e
    obtain ⟨sr, nd, dj, fr⟩ := id h2
    cases sr with
    | ow h z k => exact ⟨_, _, h1, h, z, k, fun ys es z' k' => r.change h1 h2 h3 h4 h5 (by simp) (.ow upd_same z' k') (by simp) fun _ m => m⟩
  | pu b c =>
    rw [g] at e h2; cases e
    obtain ⟨sr, nd, dj, fr⟩ := id h2
    cases sr with
    | pu h z k => exact ⟨_, _, h1, h, z, k, fun ys es z' k' => r.change h1 h2 h3 h4 h5 (by simp) (.pu upd_same z' k') (by simp) fun _ m => m⟩
  | emp => rw [g] at e; cases e
  | sh d => rw [g] at e; cases e
  | nest ws => rw [g] at e; cases e
  | dk c => rw [g] at e; cases e
  | dt c => rw [g] at e; cases e
section
variable {K : PySem.W.Frag}
/-- x.append(e) -/
def eApp (i : Nat) (f : Env → Option (D × Env)) : Env → Option (W × Env) := fun env => bo (lstW (get env i)) fun _ => bd (f env) fun d e => bo (lstW (get e i)) fun ds => if smallLen ds.length = true then some (.sh .none, put e i (setW (get e i) (ds ++ [d]))) else none
theorem gw_app {i : Nat} {te : TE} {f : Env → Option (D × Env)} (h : GD te f) : GW (tBM K "list" rAppend (tVar i) (tCons te tNil)) (eApp i f) := fun B H O σ env r w env' e Q q => by
  obtain ⟨ds0, h0, e⟩ := bo_inv e
  obtain ⟨d, e1, h1, e⟩ := bd_inv e
  obtain ⟨ds, h2, e⟩ := bo_inv e
  by_cases hz : smallLen ds.length = true
  · rw [if_pos hz] at e
    cases e
    obtain ⟨p0, xs0, a1, a2, _⟩ := r.lst h0
    refine ⟨.ref p0, a1, .inl ⟨rfl, _, SqL.of a2⟩, h B H O σ env r d e1 h1 _ fun v B1 H1 O1 g1 r1 k1 => ?_⟩
    obtain ⟨p, xs, b1, b2, b3, b4, b5⟩ := r1.lst h2
    rw [a1] at b1; cases b1
    have zl := sl_line hz
    have l1 := b4.length
    obtain ⟨g2, O2, r2, s2⟩ := b5 (xs ++ [v]) (ds ++ [d]) (by rw [List.length_append]; simp; omega) (b4.append (.cons k1 .nil))
    exact ⟨p0, xs, v, rfl, rfl, b2, by omega, q .non [] B1 _ O2 ((g1.trans g2).less s2) r2 (wr_sh .non)⟩
  · rw [if_neg hz] at e; cases e
/-- x.insert(k, e) -/
def eIns (i : Nat) (f g : Env → Option (D × Env)) : Env → Option (W × Env) := fun env => bo (lstW (get env i)) fun _ => bd (f env) fun c e1 => bd (g e1) fun d e => bo (intOf c) fun k => bo (lstW (get e i)) fun ds => if smallLen ds.length = true ∧ 0 ≤ k ∧ k < 1000000 then some (.sh .none, put e i (setW (get e i) (ds.take k.toNat ++ [d] ++ ds.drop k.toNat))) else none
theorem gw_ins {i : Nat} {te tf : TE} {f g : Env → Option (D × Env)} (h : GD te f) (h' : GD tf g) : GW (tBM K "list" (fun x vs H Q => ∃ (l : Addr) (xs : List V) (i : Int) (y : V), x = .ref l ∧ vs = [.int i, y] ∧ H l = some (.lst xs) ∧ xs.length < sizeLine ∧ 0 ≤ i ∧ i < 2 ^ 63 ∧
    Q .non (upd H l (.lst (xs.take i.toNat ++ [y] ++ xs.drop i.toNat)))) (tVar i) (tCons te (tCons tf tNil))) (eIns i f g) := fun B H O σ env r w env' e Q q => by
  obtain ⟨ds0, h0, e⟩ := bo_inv e
  obtain ⟨c, e1, h1, e⟩ := bd_inv e
  obtain ⟨d, e2, h2, e⟩ := bd_inv e
  obtain ⟨k, h3, e⟩ := bo_inv e
  obtain ⟨ds, h4, e⟩ := bo_inv e
  by_cases hz : smallLen ds.length = true ∧ 0 ≤ k ∧ k < 1000000
  · rw [if_pos hz] at e
    cases e
    obtain ⟨p0, xs0, a1, a2, _⟩ := r.lst h0
    refine ⟨.ref p0, a1, .inl ⟨rfl, _, SqL.of a2⟩, h B H O σ env r c e1 h1 _ fun v B1 H1 O1 g1 r1 k1 => h' B1 H1 O1 σ e1 r1 d e2 h2 _ fun u B2 H2 O2 g2 r2 k2 => ?_⟩
    obtain ⟨p, xs, b1, b2, b3, b4, b5⟩ := r2.lst h4
    rw [a1] at b1; cases b1
    have zl := sl_line hz.1
    have l1 := b4.length
    cases c <;> first | (cases h3; done) | skip
    cases h3
    cases k1
    obtain ⟨g3, O3, r3, s3⟩ := b5 (xs.take k.toNat ++ [u] ++ xs.drop k.toNat) (ds.take k.toNat ++ [d] ++ ds.drop k.toNat) (by rw [List.length_append, List.length_append, List.length_take, List.length_drop]; simp; omega) (((b4.take _).append (.cons k2 .nil)).append (b4.drop _))
    exact ⟨p0, xs, k, u, rfl, rfl, b2, by omega, hz.2.1, by omega, q .non [] B2 _ O3 (((g1.trans g2).trans g3).less s3) r3 (wr_sh .non)⟩
  · rw [if_neg hz] at e; cases e
/-- x.pop() -/
def ePop (i : Nat) : Env → Option (W × Env) := fun env => bo (lstW (get env i)) fun ds => bo (ds[ds.length - 1]?) fun d => some (.sh d, put env i (setW (get env i) ds.dropLast))
theorem gw_pop {i : Nat} : GW (tBM0 K "list" rPop (tVar i)) (ePop i) := fun B H O σ env r w env' e Q q => by
  obtain ⟨ds, h0, e⟩ := bo_inv e
  obtain ⟨d, h1, e⟩ := bo_inv e
  cases e
  obtain ⟨p, xs, a1, a2, a3, a4, a5⟩ := r.lst h0
  obtain ⟨v, h2, h3⟩ := a4.get h1
  obtain ⟨g2, O2, r2, s2⟩ := a5 xs.dropLast ds.dropLast (by rw [List.length_dropLast]; omega) a4.dropLast
  exact ⟨.ref p, a1, .inl ⟨rfl, _, SqL.of a2⟩, p, xs, v, rfl, rfl, a2, by rw [a4.length]; exact h2, q v [] B _ O2 (g2.less s2) r2 (wr_sh h3)⟩
/-- x[k] = e -/
def sIx (i : Nat) (g : Env → Option (D × Env)) (f : Env → Option (D × Env)) : Env → Option (Fl × Env) := fun env => bd (f env) fun d e1 => bo (lstW (get e1 i)) fun _ => bd (g e1) fun c e => bo (intOf c) fun k => bo (lstW (get e i)) fun ds => bo (ixN ds.length k) fun j => some (.nx, put e i (setW (get e i) (ds.set j d)))
theorem gs_ix {i : Nat} {te tk : TE} {f g : Env → Option (D × Env)} (h : GD te f) (h' : GD tk g) : GS (tAsg te (gSub (tVar i) tk rSetL)) (sIx i g f) := fun B H O σ env r fl env' e Dn q => by
  obtain ⟨d, e1, h1, e⟩ := bd_inv e
  obtain ⟨ds0, h0, e⟩ := bo_inv e
  obtain ⟨c, e2, h2, e⟩ := bd_inv e
  obtain ⟨k, h3, e⟩ := bo_inv e
  obtain ⟨ds, h4, e⟩ := bo_inv e
  obtain ⟨j, h5, e⟩ := bo_inv e
  cases e
  refine h B H O σ env r d e1 h1 _ fun v B1 H1 O1 g1 r1 k1 => ?_
  obtain ⟨p0, xs0, a1, a2, _⟩ := r1.lst h0
  refine ⟨.ref p0, a1, h' B1 H1 O1 σ e1 r1 c e2 h2 _ fun u B2 H2 O2 g2 r2 k2 => ?_⟩
  obtain ⟨p, xs, b1, b2, b3, b4, b5⟩ := r2.lst h4
  rw [a1] at b1; cases b1
  cases c <;> first | (cases h3; done) | skip
  cases h3
  cases k2
  obtain ⟨g3, O3, r3, s3⟩ := b5 (xs.set j v) (ds.set j d) (by rw [List.length_set]; exact b3) (b4.set (k1.mono g2.base) j)
  exact ⟨p0, xs, k, j, rfl, rfl, b2, by rw [b4.length]; exact h5, q σ B2 _ O3 (((g1.trans g2).trans g3).less s3) r3⟩
/-- x += e, ints -/
def sAug (i : Nat) (g : Int → Int → Int) (f : Env → Option (D × Env)) : Env → Option (Fl × Env) := fun env => match get env i with
  | .sh (.int a) => bd (f env) fun d e => bo (intOf d) fun b => some (.nx, put e i (.sh (.int (g a b))))
  | _ => none
theorem gs_aug {i : Nat} {g : Int → Int → Int} {te : TE} {f : Env → Option (D × Env)} (h : GD te f) : GS (tAug i te (ipI g)) (sAug i g f) := fun B H O σ env r fl env' e Dn q => by
  unfold sAug at e
  split at e
  · rename_i a ha
    obtain ⟨d, e1, h1, e⟩ := bd_inv e
    obtain ⟨b, h2, e⟩ := bo_inv e
    cases e
    obtain ⟨v, A, a1, a2, _⟩ := r.rl.get r.nd (i := i) (by rw [ha]; intro z; cases z)
    rw [ha] at a2
    cases a2 with
    | sh a2 =>
      cases a2
      refine ⟨.int a, a1, h B H O σ env r d e1 h1 _ fun v B1 H1 O1 g1 r1 k1 => ?_⟩
      cases d <;> first | (cases h2; done) | skip
      cases h2
      cases k1
      obtain ⟨O2, r2, s2⟩ := r1.storeD (DV.int (g a b)) i
      exact ⟨a, b, rfl, rfl, q _ B1 H1 O2 (g1.less s2) r2⟩
  · cases e
/-! nests -/
def eAppN (i : Nat) (f : Env → Option (W × Env)) : Env → Option (W × Env) := fun env => match get env i with
  | .nest _ => bd (f env) fun u e => match get e i with
    | .nest ws => if smallLen ws.length = true then some (.sh .none, put e i (.nest (ws ++ [u]))) else none
    | _ => none
  | _ => none
/-- the k-th item of a nest, a list, is changed: x[k].append(e) -/
def nUp (k : Nat) (g : List D → Option (List D)) (w : W) : Option W := match w with
  | .nest ws => match ws[k]? with
    | some (.ow ds) => bo (g ds) fun es => some (.nest (ws.set k (.ow es)))
    | _ => none
  | _ => none
theorem SRs.at {B H : Hp} : ∀ {vs : List V} {ws : List W} {A : List Addr} {k : Nat} {ds : List D}, SRs B H vs ws A → A.Nodup → ws[k]? = some (.ow ds) →
    ∃ p xs, vs[k]? = some (.ref p) ∧ p ∈ A ∧ H p = some (.lst xs) ∧ xs.length ≤ sizeLine ∧ DVs B xs ds ∧ ∀ ys es, ys.length ≤ sizeLine → DVs B ys es → SRs B (upd H p (.lst ys)) vs (ws.set k (.ow es)) A
  | _, _, _, k, _, .nil, _, e => by simp at e
  | _, _, _, 0, ds, .cons h hs, n, e => by
    simp at e
    subst e
    cases h with
    | ow h z c =>
      obtain ⟨n1, n2, n3⟩ := List.nodup_append.mp n
      refine ⟨_, _, rfl, by simp, h, z, c, fun ys es z' c' => .cons (.ow upd_same z' c') (hs.mono (Ex.refl _) fun a m o q => ?_)⟩
      rw [upd_ne (fun y => n3 _ (List.mem_singleton.mpr rfl) a m y.symm)]
      exact q
  | _, _, _, k + 1, ds, .cons h hs, n, e => by
    obtain ⟨n1, n2, n3⟩ := List.nodup_append.mp n
    obtain ⟨p, xs, h1, h2, h3, h4, h5, h6⟩ := SRs.at (k := k) hs n2 (by simpa using e)
    refine ⟨p, xs, by simpa using h1, List.mem_append_right _ h2, h3, h4, h5, fun ys es z' c' => .cons (h.mono (Ex.refl _) fun a m o q => ?_) (h6 ys es z' c')⟩
    rw [upd_ne (fun y => n3 a m _ h2 y)]
    exact q
def eAppK (i : Nat) (k : Nat) (d : D) : Env → Option (W × Env) := fun env => bo (nUp k (fun ds => if smallLen ds.length = true then some (ds ++ [d]) else none) (get env i)) fun w => some (.sh .none, put env i w)
theorem gw_appK {i k : Nat} {d : D} {v : V} (hd : ∀ H, DV H v d) : GW (tBM K "list" rAppend (tOp (rIx K) (tVar i) (tC (.int (k : Int)))) (tCons (tC v) tNil)) (eAppK i k d) := fun B H O σ env r w env' e Q q => by
  obtain ⟨w1, h1, e⟩ := bo_inv e
  cases e
  cases g : get env i with
  | nest ws =>
    rw [g] at h1
    unfold nUp at h1
    simp only at h1
    split at h1
    · rename_i ds hk
      obtain ⟨es, h2, h1⟩ := bo_inv h1
      cases h1
      by_cases hz : smallLen ds.length = true
      · rw [if_pos hz] at h2
        cases h2
        obtain ⟨u, A, O', a1, a2, a3, a4, a5⟩ := r.take (i := i) (by rw [g]; intro z; cases z)
        rw [g] at a2
        obtain ⟨sr, nd, dj, fr⟩ := id a2
        cases sr with
        | nest h z c =>
          obtain ⟨n1, n2⟩ := List.nodup_cons.mp nd
          obtain ⟨p, xs, b1, b2, b3, b4, b5, b6⟩ := c.at n2 hk
          have zl := sl_line hz
          have l1 := b5.length
          have key := b6 (xs ++ [v]) (ds ++ [d]) (by rw [List.length_append]; simp; omega) (b5.append (.cons (hd B) .nil))
          obtain ⟨g2, O2, r2, s2⟩ := r.change (w' := .nest (ws.set k (.ow (ds ++ [d])))) a1 a2 a3 a4 a5 (List.mem_cons_of_mem _ b2) (.nest (by rw [upd_ne (fun y => n1 (by rw [y]; exact b2))]; exact h) z key) nd fun _ m => m
          refine ⟨_, a1, .inl ⟨_, _, (k : Int), .ref p, rfl, rfl, SqL.of h, atI_nat b1, .inl ⟨rfl, _, SqL.of b3⟩, p, xs, v, rfl, rfl, b3, by omega, ?_⟩⟩
          exact q .non [] B _ O2 (g2.less s2) r2 (wr_sh .non)
      · rw [if_neg hz] at h2; cases h2
    · cases h1
  | emp => rw [g] at h1; cases h1
  | sh d => rw [g] at h1; cases h1
  | ow d => rw [g] at h1; cases h1
  | pu b d => rw [g] at h1; cases h1
  | dk c => rw [g] at h1; cases h1
  | dt c => rw [g] at h1; cases h1
end
end Z

set_option Elab.async false
set_option linter.all false
set_option maxRecDepth 100000
set_option maxHeartbeats 4000000
/-! Z8: the terms that a body is made of. -/
namespace Z
open PySem PySem.Spec PyProof.Rows L2
open Evl (Ex)
section
variable {X : Cx} {pos p apos : Pos} {a b c e : Expr} {es : List Expr} {x : Str} {op : Operator} {cop : CmpOp}

/-! ### forms of an expression -/
theorem XW.d {f : Env → Option (W × Env)} (h : XW X e f) : XD X e (fz f) := let ⟨_, p, g⟩ := h.ex; ⟨_, p, g.fz⟩
theorem XD.w {f : Env → Option (D × Env)} (h : XD X e f) : XW X e (sW f) := let ⟨_, p, g⟩ := h.ex; ⟨_, p, g.sW⟩
theorem XD.o {f : Env → Option (D × Env)} (h : XD X e f) : XO X e (vO f) := let ⟨_, p, g⟩ := h.ex; ⟨_, p, g.vO⟩
theorem XW.o {f : Env → Option (W × Env)} (h : XW X e f) : XO X e (vO (fz f)) := h.d.o
theorem XB.d {f : Env → Option D} (h : XB X e f) : XD X e (bsc f) := let ⟨_, p, g⟩ := h.ex; ⟨_, p, g.gd⟩
theorem XD.t {f : Env → Option (D × Env)} (h : XD X e f) (he : ∀ whole, isTrue e X.env whole = (do let v ← whole; standAt e.pos; holding [v] (truthy v)) := by intro _; rfl) : XT X e (tD f) := let ⟨_, p, g⟩ := h.ex; ⟨_, pt_val p he, g.tB⟩
theorem XW.t {f : Env → Option (W × Env)} (h : XW X e f) (he : ∀ whole, isTrue e X.env whole = (do let v ← whole; standAt e.pos; holding [v] (truthy v)) := by intro _; rfl) : XT X e (tD (fz f)) := h.d.t he
/-! ### names, constants -/
theorem xo_v (i : Nat) (hN : X.N[i]? = some x := by rfl) (hv : Vis X.env.scope x := by first | exact Or.inl rfl | exact Or.inr (Or.inl rfl) | exact Or.inr (Or.inr rfl)) (hd : (x == ("__debug__" : Str)) = false := by decide) (hcd : (x == ("__classdict__" : Str)) = false := by decide) :
    XO X (.Name x pos) (eV i) := ⟨_, pe_var hN hv hd hcd, go_var⟩
theorem xd_v (i : Nat) (hN : X.N[i]? = some x := by rfl) (hv : Vis X.env.scope x := by first | exact Or.inl rfl | exact Or.inr (Or.inl rfl) | exact Or.inr (Or.inr rfl)) (hd : (x == ("__debug__" : Str)) = false := by decide) (hcd : (x == ("__classdict__" : Str)) = false := by decide) :
    XD X (.Name x pos) (eD i) := ⟨_, pe_var hN hv hd hcd, gd_var⟩
theorem xw_m (i : Nat) (hN : X.N[i]? = some x := by rfl) (hv : Vis X.env.scope x := by first | exact Or.inl rfl | exact Or.inr (Or.inl rfl) | exact Or.inr (Or.inr rfl)) (hd : (x == ("__debug__" : Str)) = false := by decide) (hcd : (x == ("__classdict__" : Str)) = false := by decide) :
    XW X (.Name x pos) (eM i) := ⟨_, pe_var hN hv hd hcd, gw_move⟩
theorem xb_v (i : Nat) (hN : X.N[i]? = some x := by rfl) (hv : Vis X.env.scope x := by first | exact Or.inl rfl | exact Or.inr (Or.inl rfl) | exact Or.inr (Or.inr rfl)) (hd : (x == ("__debug__" : Str)) = false := by decide) (hcd : (x == ("__classdict__" : Str)) = false := by decide) :
    XB X (.Name x pos) (bV i) := ⟨_, pe_var hN hv hd hcd, gb_var⟩
theorem xd_i {i : Int} {j : Nat} : XD X (.Constant (.int i) j pos) (eC (.int i)) := ⟨_, pe_int, gd_c fun _ => .int i⟩
theorem xd_b {i : Bool} {j : Nat} : XD X (.Constant (.bool i) j pos) (eC (.bool i)) := ⟨_, pe_bl, gd_c fun _ => .bl i⟩
theorem xd_n {j : Nat} : XD X (.Constant .none j pos) (eC .none) := ⟨_, pe_non, gd_c fun _ => .non⟩
theorem xd_s {i : Str} {j : Nat} : XD X (.Constant (.str i) j pos) (eC (.str i)) := ⟨_, pe_str, gd_c fun _ => .str i⟩
theorem xb_i {i : Int} {j : Nat} : XB X (.Constant (.int i) j pos) (bC (.int i)) := ⟨_, pe_int, gb_c fun _ => .int i⟩
theorem xb_b {i : Bool} {j : Nat} : XB X (.Constant (.bool i) j pos) (bC (.bool i)) := ⟨_, pe_bl, gb_c fun _ => .bl i⟩
theorem xb_n {j : Nat} : XB X (.Constant .none j pos) (bC .none) := ⟨_, pe_non, gb_c fun _ => .non⟩
theorem xb_s {i : Str} {j : Nat} : XB X (.Constant (.str i) j pos) (bC (.str i)) := ⟨_, pe_str, gb_c fun _ => .str i⟩
/-! ### operators -/
variable {f f' : Env → Option (Opd × Env)} {g : D → D → Option W}
theorem xw_bin (h : OpX X (binaryOp op) g) (ha : XO X a f) (hb : XO X b f') : XW X (.BinOp a op b pos) (eB g f f') := by
  obtain ⟨r, h1, h2⟩ := h.ex
  obtain ⟨t, p1, g1⟩ := ha.ex
  obtain ⟨u, p2, g2⟩ := hb.ex
  exact ⟨_, pe_op h1 p1 p2, gw_op h2 g1 g2⟩
theorem xw_cmp (h : OpX X (compareOp cop) g) (ha : XO X a f) (hb : XO X b f') (hm : behindInMarks cop b = false := by first | exact nobehind _ (by decide) (by decide) | rfl) : XW X (.Compare a [cop] [b] pos) (eB g f f') := by
  obtain ⟨r, h1, h2⟩ := h.ex
  obtain ⟨t, p1, g1⟩ := ha.ex
  obtain ⟨u, p2, g2⟩ := hb.ex
  exact ⟨_, pe_cmpR h1 p1 p2 hm, gw_op h2 g1 g2⟩
theorem xt_cmpW (h : OpX X (compareOp cop) g) (ha : XO X a f) (hb : XO X b f') (hm : behindInMarks cop b = false := by first | exact nobehind _ (by decide) (by decide) | rfl) : XT X (.Compare a [cop] [b] pos) (tD (fz (eB g f f'))) := by
  obtain ⟨r, h1, h2⟩ := h.ex
  obtain ⟨t, p1, g1⟩ := ha.ex
  obtain ⟨u, p2, g2⟩ := hb.ex
  exact ⟨_, pt_cmpR h1 p1 p2 hm, (gw_op h2 g1 g2).fz.tB⟩
theorem xw_un {uop : UnaryOp} {g : D → Option W} (h : UnX X (unaryOp uop) g) (ha : XO X a f) : XW X (.UnaryOp uop a pos) (eU g f) := by
  obtain ⟨r, h1, h2⟩ := h.ex
  obtain ⟨t, p1, g1⟩ := ha.ex
  exact ⟨_, pe_un h1 p1, gw_un h2 g1⟩
theorem xw_ix (ha : XO X a f) (hb : XO X b f') (hs : PlainIx b := by exact fun _ _ => rfl) : XW X (.Subscript a b pos) (eB wIx f f') := by
  obtain ⟨r, h1, h2⟩ := (ix_X (X := X)).ex
  obtain ⟨t, p1, g1⟩ := ha.ex
  obtain ⟨u, p2, g2⟩ := hb.ex
  exact ⟨_, pe_ix h1 p1 p2 hs, gw_op h2 g1 g2⟩
theorem xp_n : XP X none pN := ⟨_, po_none, gp_none⟩
theorem xp_s {f : Env → Option (D × Env)} (h : XD X e f) : XP X (some e) (pS f) := let ⟨_, p, g⟩ := h.ex; ⟨_, po_some p, gp_some g⟩
theorem xw_sl {lo hi : Option Expr} {l h : Env → Option (Option Int × Env)} {p2 : Pos} (ha : XO X a f) (hl : XP X lo l) (hh : XP X hi h) : XW X (.Subscript a (.Slice lo hi none p2) pos) (eSl wSl f l h) := by
  obtain ⟨t, p1, g1⟩ := ha.ex
  obtain ⟨u, q2, g2⟩ := hl.ex
  obtain ⟨v, p3, g3⟩ := hh.ex
  exact ⟨_, pe_slice sl_list p1 q2 p3, gw_sl sl_listW g1 g2 g3⟩
theorem xd_one {bop : BoolOp} {f : Env → Option (D × Env)} (h : XD X a f) : XD X (.BoolOp bop [a] pos) f := let ⟨_, p, g⟩ := h.ex; ⟨_, pe_one p, g⟩
theorem xd_and {f g : Env → Option (D × Env)} (ha : XD X a f) (hb : XD X (.BoolOp .And (b :: es) pos) g) : XD X (.BoolOp .And (a :: b :: es) pos) (eAn f g) := by
  obtain ⟨t, p1, g1⟩ := ha.ex
  obtain ⟨u, p2, g2⟩ := hb.ex
  exact ⟨_, pe_and p1 p2, gd_and g1 g2⟩
theorem xd_or {f g : Env → Option (D × Env)} (ha : XD X a f) (hb : XD X (.BoolOp .Or (b :: es) pos) g) : XD X (.BoolOp .Or (a :: b :: es) pos) (eOr f g) := by
  obtain ⟨t, p1, g1⟩ := ha.ex
  obtain ⟨u, p2, g2⟩ := hb.ex
  exact ⟨_, pe_or p1 p2, gd_or g1 g2⟩
theorem xd_not {f : Env → Option (D × Env)} (ha : XD X a f) : XD X (.UnaryOp .Not a pos) (eNo f) := let ⟨_, p, g⟩ := ha.ex; ⟨_, pe_not p, gd_not g⟩
theorem xt_and1 {f : Env → Option (Bool × Env)} (h : XT X a f) : XTW X (.BoolOp .And [a] pos) f := let ⟨_, p, g⟩ := h.ex; ⟨_, pw_and1 p, g⟩
theorem xt_or1 {f : Env → Option (Bool × Env)} (h : XT X a f) : XTW X (.BoolOp .Or [a] pos) f := let ⟨_, p, g⟩ := h.ex; ⟨_, pw_or1 p, g⟩
theorem xt_and {f g : Env → Option (Bool × Env)} (ha : XT X a f) (hb : XTW X (.BoolOp .And (b :: es) pos) g) : XTW X (.BoolOp .And (a :: b :: es) pos) (tAn f g) := by
  obtain ⟨t, p1, g1⟩ := ha.ex
  obtain ⟨u, p2, g2⟩ := hb.ex
  exact ⟨_, pw_and p1 p2, gt_and g1 g2⟩
theorem xt_or {f g : Env → Option (Bool × Env)} (ha : XT X a f) (hb : XTW X (.BoolOp .Or (b :: es) pos) g) : XTW X (.BoolOp .Or (a :: b :: es) pos) (tOr' f g) := by
  obtain ⟨t, p1, g1⟩ := ha.ex
  obtain ⟨u, p2, g2⟩ := hb.ex
  exact ⟨_, pw_or p1 p2, gt_or g1 g2⟩
theorem XTW.t {f : Env → Option (Bool × Env)} (h : XTW X a f) : XT X a f := let ⟨_, p, g⟩ := h.ex; ⟨_, p.pt, g⟩
theorem xt_not {f : Env → Option (Bool × Env)} (h : XT X a f) : XT X (.UnaryOp .Not a pos) (tNo f) := let ⟨_, p, g⟩ := h.ex; ⟨_, pt_not p, gt_not g⟩
theorem xw_if {h : Env → Option (Bool × Env)} {f g : Env → Option (W × Env)} (hc : XT X c h) (ha : XW X a f) (hb : XW X b g) : XW X (.IfExp c a b pos) (eIf h f g) := by
  obtain ⟨v, p3, g3⟩ := hc.ex
  obtain ⟨t, p1, g1⟩ := ha.ex
  obtain ⟨u, p2, g2⟩ := hb.ex
  exact ⟨_, pe_ifExp p3 p1 p2, gw_if g3 g1 g2⟩
/-! ### arguments, displays -/
theorem xa_n : XA X [] aN := ⟨_, pa_nil, ga_nil⟩
theorem xa_c {g : Env → Option (List Opd × Env)} (ha : XO X e f) (hb : XA X es g) (hs : starEach (e :: es) X.env = (false, eval e X.env) :: starEach es X.env := by rfl) : XA X (e :: es) (aC f g) := by
  obtain ⟨t, p1, g1⟩ := ha.ex
  obtain ⟨u, p2, g2⟩ := hb.ex
  exact ⟨_, pa_cons p1 p2 hs, ga_cons g1 g2⟩
theorem xad_n : XAD X [] adN := ⟨_, pa_nil, gad_nil⟩
theorem xad_c {f : Env → Option (D × Env)} {g : Env → Option (List D × Env)} (ha : XD X e f) (hb : XAD X es g) (hs : starEach (e :: es) X.env = (false, eval e X.env) :: starEach es X.env := by rfl) : XAD X (e :: es) (adC f g) := by
  obtain ⟨t, p1, g1⟩ := ha.ex
  obtain ⟨u, p2, g2⟩ := hb.ex
  exact ⟨_, pa_cons p1 p2 hs, gad_cons g1 g2⟩
theorem xba_n : XBA X [] bN := ⟨_, pa_nil, gba_nil⟩
theorem xba_c {f : Env → Option D} {g : Env → Option (List D)} (ha : XB X e f) (hb : XBA X es g) (hs : starEach (e :: es) X.env = (false, eval e X.env) :: starEach es X.env := by rfl) : XBA X (e :: es) (bCs f g) := by
  obtain ⟨t, p1, g1⟩ := ha.ex
  obtain ⟨u, p2, g2⟩ := hb.ex
  exact ⟨_, pa_cons p1 p2 hs, gba_cons g1 g2⟩
theorem xn_n : XN X [] nN := ⟨_, pa_nil, gn_nil⟩
theorem xn_c {f : Env → Option (W × Env)} {g : Env → Option (List W × Env)} (ha : XW X e f) (hb : XN X es g) (hs : starEach (e :: es) X.env = (false, eval e X.env) :: starEach es X.env := by rfl) : XN X (e :: es) (nC f g) := by
  obtain ⟨t, p1, g1⟩ := ha.ex
  obtain ⟨u, p2, g2⟩ := hb.ex
  exact ⟨_, pa_cons p1 p2 hs, gn_cons g1 g2⟩
theorem xw_lst {f : Env → Option (List D × Env)} (h : XAD X es f) : XW X (.List es pos) (eLst f) := let ⟨_, p, g⟩ := h.ex; ⟨_, pe_lst p, gw_lst g⟩
theorem xw_tup {f : Env → Option (List D × Env)} {k : Nat} (h : XAD X es f) : XW X (.Tuple es k pos) (eTup f) := let ⟨_, p, g⟩ := h.ex; ⟨_, pe_tup p, gw_tup g⟩
theorem xw_nest {f : Env → Option (List W × Env)} (h : XN X es f) : XW X (.List es pos) (eNest f) := let ⟨_, p, g⟩ := h.ex; ⟨_, pe_lst p, gw_nest g⟩
theorem xb_lst {f : Env → Option (List D)} (h : XBA X es f) : XB X (.List es pos) (bLst f) := let ⟨_, p, g⟩ := h.ex; ⟨_, pe_lst p, gb_lst g⟩
theorem xb_tup {f : Env → Option (List D)} {k : Nat} (h : XBA X es f) : XB X (.Tuple es k pos) (bTup f) := let ⟨_, p, g⟩ := h.ex; ⟨_, pe_tup p, gb_tup g⟩
theorem xb_bin {f f' : Env → Option D} (h : OpX X (binaryOp op) g) (ha : XB X a f) (hb : XB X b f') : XB X (.BinOp a op b pos) (bB g f f') := by
  obtain ⟨r, h1, h2⟩ := h.ex
  obtain ⟨t, p1, g1⟩ := ha.ex
  obtain ⟨u, p2, g2⟩ := hb.ex
  exact ⟨_, pe_op h1 p1 p2, gb_op h2 g1 g2⟩
theorem xb_cmp {f f' : Env → Option D} (h : OpX X (compareOp cop) g) (ha : XB X a f) (hb : XB X b f') (hm : behindInMarks cop b = false := by first | exact nobehind _ (by decide) (by decide) | rfl) : XB X (.Compare a [cop] [b] pos) (bB g f f') := by
  obtain ⟨r, h1, h2⟩ := h.ex
  obtain ⟨t, p1, g1⟩ := ha.ex
  obtain ⟨u, p2, g2⟩ := hb.ex
  exact ⟨_, pe_cmpR h1 p1 p2 hm, gb_op h2 g1 g2⟩
theorem xt_cmp {f f' : Env → Option D} (h : OpX X (compareOp cop) g) (ha : XB X a f) (hb : XB X b f') (hm : behindInMarks cop b = false := by first | exact nobehind _ (by decide) (by decide) | rfl) : XT X (.Compare a [cop] [b] pos) (tD (bsc (bB g f f'))) := by
  obtain ⟨r, h1, h2⟩ := h.ex
  obtain ⟨t, p1, g1⟩ := ha.ex
  obtain ⟨u, p2, g2⟩ := hb.ex
  exact ⟨_, pt_cmpR h1 p1 p2 hm, (gb_op h2 g1 g2).gd.tB⟩
theorem xb_ix {f f' : Env → Option D} (ha : XB X a f) (hb : XB X b f') (hs : PlainIx b := by exact fun _ _ => rfl) : XB X (.Subscript a b pos) (bB wIx f f') := by
  obtain ⟨r, h1, h2⟩ := (ix_X (X := X)).ex
  obtain ⟨t, p1, g1⟩ := ha.ex
  obtain ⟨u, p2, g2⟩ := hb.ex
  exact ⟨_, pe_ix h1 p1 p2 hs, gb_op h2 g1 g2⟩
theorem xb_one {bop : BoolOp} {f : Env → Option D} (h : XB X a f) : XB X (.BoolOp bop [a] pos) f := let ⟨_, p, g⟩ := h.ex; ⟨_, pe_one p, g⟩
theorem xb_and {f g : Env → Option D} (ha : XB X a f) (hb : XB X (.BoolOp .And (b :: es) pos) g) : XB X (.BoolOp .And (a :: b :: es) pos) (bAn f g) := by
  obtain ⟨t, p1, g1⟩ := ha.ex
  obtain ⟨u, p2, g2⟩ := hb.ex
  exact ⟨_, pe_and p1 p2, gb_and g1 g2⟩
theorem xb_or {f g : Env → Option D} (ha : XB X a f) (hb : XB X (.BoolOp .Or (b :: es) pos) g) : XB X (.BoolOp .Or (a :: b :: es) pos) (bOr f g) := by
  obtain ⟨t, p1, g1⟩ := ha.ex
  obtain ⟨u, p2, g2⟩ := hb.ex
  exact ⟨_, pe_or p1 p2, gb_or g1 g2⟩
theorem xb_not {f : Env → Option D} (ha : XB X a f) : XB X (.UnaryOp .Not a pos) (bNo f) := let ⟨_, p, g⟩ := ha.ex; ⟨_, pe_not p, gb_not g⟩
/-! ### built-ins -/
variable {id T : String} {q : List D → Option W} {fa : Env → Option (List Opd × Env)}
theorem xw_blt (h : CallX X (.builtin id) q) (hm : X.mg x = none) (hv : bootBuiltins x = some (.builtin id)) (ha : XA X (e :: es) fa) (hg : Gl X x := by rfl) (hn : x ≠ "__name__" := by decide) (hdb : (x == ("__debug__" : Str)) = false := by decide)
    (he : starEach (e :: es) X.env = (false, eval e X.env) :: starEach es X.env := by rfl) (hpl : (backTo pos (starEach es X.env)).any (·.1) = false := by rfl) : XW X (.Call (.Name x p) (e :: es) [] pos) (eCB q fa) := by
  obtain ⟨r, h1, h2⟩ := h.ex
  obtain ⟨t, p1, g1⟩ := ha.ex
  exact ⟨_, pe_callB h1 hg hm hv p1 hn hdb he hpl, gw_cb h2 g1⟩
theorem xw_bty (h : CallX X (.type T) q) (hm : X.mg x = none) (hv : bootBuiltins x = some (.type T)) (ha : XA X (e :: es) fa) (hg : Gl X x := by rfl) (hn : x ≠ "__name__" := by decide) (hdb : (x == ("__debug__" : Str)) = false := by decide)
    (he : starEach (e :: es) X.env = (false, eval e X.env) :: starEach es X.env := by rfl) (hpl : (backTo pos (starEach es X.env)).any (·.1) = false := by rfl) : XW X (.Call (.Name x p) (e :: es) [] pos) (eCB q fa) := by
  obtain ⟨r, h1, h2⟩ := h.ex
  obtain ⟨t, p1, g1⟩ := ha.ex
  exact ⟨_, pe_callTy h1 hg hm hv p1 hn hdb he hpl, gw_cb h2 g1⟩
theorem xw_bmo (h : CallX X (.builtin id) q) (hm : X.mg x = some (.builtin id)) (ha : XA X (e :: es) fa) (hg : Gl X x := by rfl) (hdb : (x == ("__debug__" : Str)) = false := by decide)
    (he : starEach (e :: es) X.env = (false, eval e X.env) :: starEach es X.env := by rfl) (hpl : (backTo pos (starEach es X.env)).any (·.1) = false := by rfl) : XW X (.Call (.Name x p) (e :: es) [] pos) (eCB q fa) := by
  obtain ⟨r, h1, h2⟩ := h.ex
  obtain ⟨t, p1, g1⟩ := ha.ex
  exact ⟨_, pe_callBfun h1 hg hm p1 hdb he hpl, gw_cb h2 g1⟩
theorem xb_blt {fb : Env → Option (List D)} (h : CallX X (.builtin id) q) (hm : X.mg x = none) (hv : bootBuiltins x = some (.builtin id)) (ha : XBA X (e :: es) fb) (hg : Gl X x := by rfl) (hn : x ≠ "__name__" := by decide) (hdb : (x == ("__debug__" : Str)) = false := by decide)
    (he : starEach (e :: es) X.env = (false, eval e X.env) :: starEach es X.env := by rfl) (hpl : (backTo pos (starEach es X.env)).any (·.1) = false := by rfl) : XB X (.Call (.Name x p) (e :: es) [] pos) (bCB q fb) := by
  obtain ⟨r, h1, h2⟩ := h.ex
  obtain ⟨t, p1, g1⟩ := ha.ex
  exact ⟨_, pe_callB h1 hg hm hv p1 hn hdb he hpl, gb_cb h2 g1⟩
theorem xw_isi {p2 : Pos} {y : Str} {pp : D → Bool} (hp : TyP T pp) (hm : X.mg "isinstance" = none) (hm2 : X.mg y = none) (hv2 : bootBuiltins y = some (.type T)) (ha : XO X a f) (hg : Gl X "isinstance" := by rfl) (hg2 : Gl X y := by rfl)
    (hn2 : y ≠ "__name__" := by decide) (hdb2 : (y == ("__debug__" : Str)) = false := by decide) (s1 : starEach [a, .Name y p2] X.env = (false, eval a X.env) :: starEach [.Name y p2] X.env := by rfl) (s2 : starEach [.Name y p2] X.env = (false, eval (.Name y p2) X.env) :: starEach [] X.env := by rfl)
    (hpl : (backTo pos (starEach [.Name y p2] X.env)).any (·.1) = false := by rfl) : XW X (.Call (.Name "isinstance" p) [a, .Name y p2] [] pos) (eU (wTy pp) f) := by
  obtain ⟨t, p1, g1⟩ := ha.ex
  exact ⟨_, pe_callB call_isi hg hm (by decide +kernel) (pa_cons p1 (pa_cons (pe_bltn (v := .ty T) hg2 hm2 hv2 rfl hn2 hdb2) pa_nil s2) s1) (by decide) (by decide) s1 hpl, gw_isi hp g1⟩
/-- a written tuple of classes -/
inductive XTys (X : Cx) : List Expr → List String → Prop
  | nil : XTys X [] []
  | cons {y : Str} {p2 : Pos} {T : String} {es : List Expr} {Ts : List String} (hm : X.mg y = none) (hv : bootBuiltins y = some (.type T)) (r : XTys X es Ts) (hg : Gl X y := by rfl) (hn : y ≠ "__name__" := by decide) (hdb : (y == ("__debug__" : Str)) = false := by decide)
      (hs : starEach (.Name y p2 :: es) X.env = (false, eval (.Name y p2) X.env) :: starEach es X.env := by rfl) : XTys X (.Name y p2 :: es) (T :: Ts)
theorem XTys.pa : ∀ {es : List Expr} {Ts : List String}, XTys X es Ts → PA X es (tTys Ts)
  | _, _, .nil => pa_nil
  | _, _, .cons hm hv r hg hn hdb hs => pa_cons (pe_bltn (v := .ty _) hg hm hv rfl hn hdb) r.pa hs
theorem xw_isiT {p2 : Pos} {k : Nat} {Ts : List String} {pps : List (D → Bool)} (hp : TysP Ts pps) (hm : X.mg "isinstance" = none) (hts : XTys X es Ts) (ha : XO X a f) (hz : Ts.length < 1000 := by decide) (hg : Gl X "isinstance" := by rfl)
    (s1 : starEach [a, .Tuple es k p2] X.env = (false, eval a X.env) :: starEach [.Tuple es k p2] X.env := by rfl) (s2 : starEach [.Tuple es k p2] X.env = (false, eval (.Tuple es k p2) X.env) :: starEach [] X.env := by rfl)
    (hpl : (backTo pos (starEach [.Tuple es k p2] X.env)).any (·.1) = false := by rfl) : XW X (.Call (.Name "isinstance" p) [a, .Tuple es k p2] [] pos) (eU (wTy fun d => pps.any fun p => p d) f) := by
  obtain ⟨t, p1, g1⟩ := ha.ex
  exact ⟨_, pe_callB call_isiT hg hm (by decide +kernel) (pa_cons p1 (pa_cons (pe_tup hts.pa) pa_nil s2) s1) (by decide) (by decide) s1 hpl, gw_isiT hp hz g1⟩
theorem xw_lenSet {p2 q2 : Pos} (hm : X.mg "len" = none) (hm2 : X.mg "set" = none) (ha : XO X a f) (hc : X.calm = true := by rfl) (hg : Gl X "len" := by rfl) (hg2 : Gl X "set" := by rfl)
    (na : starEach [a] X.env = (false, eval a X.env) :: starEach [] X.env := by rfl) : XW X (.Call (.Name "len" p) [.Call (.Name "set" p2) [a] [] q2] [] pos) (eU wLenSet f) := by
  obtain ⟨t, p1, g1⟩ := ha.ex
  exact ⟨_, RZ.pe_lenSetI hg hm hg2 hm2 p1 hc na, gw_lenSet g1⟩
/-! ### defs called -/
variable {k : Nat} {fa' : Addr} {fd : FuncData} {ps ks : List Str}
/-- what a caller knows of a def -/
structure Knows (X : Cx) (k : Nat) (x : Str) (fd : FuncData) (ps : List Str) (sp : Sp) : Prop where
  room : Room k X.A
  gu : X.A.guards = some []
  ex : ∃ f, X.mg x = some (.ref f) ∧ PySem.W.keepIn X.K (.ref f) = true ∧ FnG X.prog X.w X.K X.mg X.base CX0 k f fd ps sp
theorem xw_fn {F : List D → Option W} {f : Env → Option (List D × Env)} (h : Knows X k x fd ps (spF F)) (hb : Binds X.K fd ps []) (ha : XAD X (e :: es) f) (hg : Gl X x := by rfl) (nd : (x == ("__debug__" : Str)) = false := by decide)
    (he : starEach (e :: es) X.env = (false, eval e X.env) :: starEach es X.env := by rfl) (hpl : (backTo pos (starEach es X.env)).any (·.1) = false := by rfl) : XW X (.Call (.Name x p) (e :: es) [] pos) (eF F f) := by
  obtain ⟨fa, h1, h2, h3⟩ := h.ex
  obtain ⟨t, p1, g1⟩ := ha.ex
  exact ⟨_, pe_callG (dvs := []) h3 h.room h.gu hg h1 h2 hb .nil pass0 p1 nd he hpl, gw_call g1⟩
theorem xb_fn {F : List D → Option W} {f : Env → Option (List D)} (h : Knows X k x fd ps (spF F)) (hb : Binds X.K fd ps []) (ha : XBA X (e :: es) f) (hg : Gl X x := by rfl) (nd : (x == ("__debug__" : Str)) = false := by decide)
    (he : starEach (e :: es) X.env = (false, eval e X.env) :: starEach es X.env := by rfl) (hpl : (backTo pos (starEach es X.env)).any (·.1) = false := by rfl) : XB X (.Call (.Name x p) (e :: es) [] pos) (bCB F f) := by
  obtain ⟨fa, h1, h2, h3⟩ := h.ex
  obtain ⟨t, p1, g1⟩ := ha.ex
  exact ⟨_, pe_callG (dvs := []) h3 h.room h.gu hg h1 h2 hb .nil pass0 p1 nd he hpl, gb_call g1⟩
theorem xw_fnP {F : List D → List D → Option (W × List D)} {y : Str} {py : Pos} {f : Env → Option (List D × Env)} (i : Nat) (h : Knows X k x fd ps (spP F)) (hb : Binds X.K fd ps []) (ha : XAD X es f) (hg : Gl X x := by rfl) (nd : (x == ("__debug__" : Str)) = false := by decide)
    (hN : X.N[i]? = some y := by rfl) (hv : Vis X.env.scope y := by first | exact Or.inl rfl | exact Or.inr (Or.inl rfl) | exact Or.inr (Or.inr rfl)) (hd : (y == ("__debug__" : Str)) = false := by decide) (hcd : (y == ("__classdict__" : Str)) = false := by decide)
    (he : starEach (.Name y py :: es) X.env = (false, eval (.Name y py) X.env) :: starEach es X.env := by rfl) (hpl : (backTo pos (starEach es X.env)).any (·.1) = false := by rfl) : XW X (.Call (.Name x p) (.Name y py :: es) [] pos) (eP i F f) := by
  obtain ⟨fa, h1, h2, h3⟩ := h.ex
  obtain ⟨t, p1, g1⟩ := ha.ex
  exact ⟨_, pe_callG (dvs := []) h3 h.room h.gu hg h1 h2 hb .nil pass0 (pa_cons (pe_var hN hv hd hcd) p1 he) nd he hpl, gw_callP g1⟩
/-- with defaults behind: data that are no objects -/
def eFd (F : List D → Option W) (dds : List D) (f : Env → Option (List D × Env)) : Env → Option (W × Env) := fun env => bd (f env) fun ds e => bo (F (ds ++ dds)) fun w => some (w, e)
theorem gw_callD {F : List D → Option W} {E : XK} {t : TA} {dvs : List V} {dds : List D} {f : Env → Option (List D × Env)} (hd : ∀ H, DVs H dvs dds) (h : GAD t f) : GW (tCall (spF F) dvs E t) (eFd F dds f) := fun B H O σ env r w env' e Q q => by
  obtain ⟨ds, e1, h1, e⟩ := bd_inv e
  obtain ⟨w1, h2, e⟩ := bo_inv e
  cases e
  refine h B H O σ env r ds _ h1 _ fun vs B1 H1 O1 g1 r1 k1 => ?_
  exact ⟨B1, ds ++ dds, w, r1.sub, k1.append (hd B1), h2, fun v A B2 H2 gp nr => q v A B2 H2 O1 (g1.trans (nr.gr gp)) (r1.grow gp) (nr.wr r1)⟩
theorem xw_fnD {F : List D → Option W} {dvs : List V} {dls : List Value} {dds : List D} {f : Env → Option (List D × Env)} (h : Knows X k x fd ps (spF F)) (hb : Binds X.K fd ps dls) (hd : Vals dvs dls) (hdd : ∀ H, DVs H dvs dds) (ha : XAD X (e :: es) f) (hg : Gl X x := by rfl) (nd : (x == ("__debug__" : Str)) = false := by decide)
    (he : starEach (e :: es) X.env = (false, eval e X.env) :: starEach es X.env := by rfl) (hpl : (backTo pos (starEach es X.env)).any (·.1) = false := by rfl) : XW X (.Call (.Name x p) (e :: es) [] pos) (eFd F dds f) := by
  obtain ⟨fa, h1, h2, h3⟩ := h.ex
  obtain ⟨t, p1, g1⟩ := ha.ex
  exact ⟨_, pe_callG h3 h.room h.gu hg h1 h2 hb hd pass0 p1 nd he hpl, gw_callD hdd g1⟩
theorem vi1 {i : Int} {t : Tok} : Vals [.int i] [.int i t] := .cons ⟨t, rfl⟩ .nil
/-- keywords alone; js says which keyword each parameter has -/
def pick {α : Type} (js : List Nat) (xs : List α) : List α := js.filterMap (xs[·]?)
theorem DVs.pick {H : Hp} {vs : List V} {ds : List D} (h : DVs H vs ds) : ∀ js : List Nat, DVs H (pick js vs) (pick js ds)
  | [] => .nil
  | j :: js => by
    have ih := DVs.pick h js
    unfold Z.pick at ih ⊢
    rw [List.filterMap_cons, List.filterMap_cons]
    cases q : ds[j]? with
    | none =>
      have : vs[j]? = none := by rw [List.getElem?_eq_none_iff, h.length]; exact List.getElem?_eq_none_iff.mp q
      rw [this]
      exact ih
    | some d =>
      obtain ⟨v, h1, h2⟩ := h.get q
      rw [h1]
      exact .cons h2 ih
theorem Vals.pick {vs : List V} {us : List Value} (h : Vals vs us) : ∀ js : List Nat, Vals (Z.pick js vs) (Z.pick js us)
  | [] => .nil
  | j :: js => by
    have ih := Vals.pick h js
    unfold Z.pick at ih ⊢
    rw [List.filterMap_cons, List.filterMap_cons]
    cases q : vs[j]? with
    | none => rw [h.none_of q]; exact ih
    | some d =>
      obtain ⟨v, h1, h2⟩ := h.get q
      rw [h1]
      exact .cons h2 ih
/-- the keywords' values bind in the parameters' order -/
def KwOk (K : PySem.W.Frag) (fd : FuncData) (ps ks : List Str) (js : List Nat) : Prop := ∀ (s : Shared) (ws : List Value), K.In s.heap → ws.length = ks.length → BindsTo s fd ⟨[], ks.zip ws⟩ (ps.zip (pick js ws))
theorem KwOk.bind {K : PySem.W.Frag} {js : List Nat} (h : KwOk K fd ps ks js) : KwB K fd ps ks (pick js) (pick js) := ⟨h, fun r => Vals.pick r js⟩
def eFK (F : List D → Option W) (n : Nat) (js : List Nat) (f : Env → Option (List D × Env)) : Env → Option (W × Env) := fun env => bd (f env) fun ds e => if ds.length = n then bo (F (pick js ds)) fun w => some (w, e) else none
theorem gw_callK {F : List D → Option W} {E : XK} {t : TA} {n : Nat} {js : List Nat} {f : Env → Option (List D × Env)} (h : GAD t f) : GW (tCallKw (spF F) n (pick js) E t) (eFK F n js f) := fun B H O σ env r w env' e Q q => by
  obtain ⟨ds, e1, h1, e⟩ := bd_inv e
  by_cases hn : ds.length = n
  · rw [if_pos hn] at e
    obtain ⟨w1, h2, e⟩ := bo_inv e
    cases e
    refine h B H O σ env r ds _ h1 _ fun vs B1 H1 O1 g1 r1 k1 => ⟨k1.length.trans hn, ?_⟩
    exact ⟨B1, _, w, r1.sub, k1.pick js, h2, fun v A B2 H2 gp nr => q v A B2 H2 O1 (g1.trans (nr.gr gp)) (r1.grow gp) (nr.wr r1)⟩
  · rw [if_neg hn] at e; cases e
def bFK (F : List D → Option W) (n : Nat) (js : List Nat) (f : Env → Option (List D)) : Env → Option D := fun env => bo (f env) fun ds => if ds.length = n then bo (F (pick js ds)) fun w => wD w else none
theorem gb_callK {F : List D → Option W} {E : XK} {t : TA} {n : Nat} {js : List Nat} {f : Env → Option (List D)} (h : GBA t f) : GB (tCallKw (spF F) n (pick js) E t) (bFK F n js f) := fun B H O σ env rp d e Q q => by
  obtain ⟨ds, h1, e⟩ := bo_inv e
  by_cases hn : ds.length = n
  · rw [if_pos hn] at e
    obtain ⟨w, h3, e⟩ := bo_inv e
    refine h B H O σ env rp ds h1 _ fun v H1 x1 k1 => ⟨k1.length.trans hn, ?_⟩
    exact ⟨H1, _, w, Ex.refl _, k1.pick js, h3, fun v A B2 H2 gp nr => q v H2 (x1.trans gp.keep) (nr.sr.data (B' := H2) gp.sub (fun _ _ => rfl) e)⟩
  · rw [if_neg hn] at e; cases e
structure XKs (X : Cx) (kws : List Keyword) (f : Env → Option (List D × Env)) : Prop where ex : ∃ t, PK X kws t ∧ GAD t f
structure XBKs (X : Cx) (kws : List Keyword) (f : Env → Option (List D)) : Prop where ex : ∃ t, PK X kws t ∧ GBA t f
variable {kws : List Keyword} {nm : Option Str} {kpos : Pos}
theorem xk_n : XKs X [] adN := ⟨_, pk_nil, gad_nil⟩
theorem xk_c {f : Env → Option (D × Env)} {g : Env → Option (List D × Env)} (ha : XD X e f) (hb : XKs X kws g) : XKs X (⟨nm, e, kpos⟩ :: kws) (adC f g) := by
  obtain ⟨t, p1, g1⟩ := ha.ex
  obtain ⟨u, p2, g2⟩ := hb.ex
  exact ⟨_, pk_cons p1 p2, gad_cons g1 g2⟩
theorem xbk_n : XBKs X [] bN := ⟨_, pk_nil, gba_nil⟩
theorem xbk_c {f : Env → Option D} {g : Env → Option (List D)} (ha : XB X e f) (hb : XBKs X kws g) : XBKs X (⟨nm, e, kpos⟩ :: kws) (bCs f g) := by
  obtain ⟨t, p1, g1⟩ := ha.ex
  obtain ⟨u, p2, g2⟩ := hb.ex
  exact ⟨_, pk_cons p1 p2, gba_cons g1 g2⟩
theorem xw_fnK {F : List D → Option W} {js : List Nat} {n : Nat} {f : Env → Option (List D × Env)} (h : Knows X k x fd ps (spF F)) (hb : KwOk X.K fd ps ks js) (ha : XKs X kws f) (hn : ks.length = n := by rfl) (hg : Gl X x := by rfl)
    (hall : (backToKw pos (keywordEach kws X.env)).all (·.1.isSome) = true := by rfl) (hks : (backToKw pos (keywordEach kws X.env)).filterMap (·.1) = ks := by rfl) (nd : (x == ("__debug__" : Str)) = false := by decide)
    (hpl : ((backTo pos (starEach [] X.env)).any (·.1) || (backToKw pos (keywordEach kws X.env)).any (·.1.isNone)) = false := by rfl) : XW X (.Call (.Name x p) [] kws pos) (eFK F n js f) := by
  subst hn
  obtain ⟨fa, h1, h2, h3⟩ := h.ex
  obtain ⟨t, p1, g1⟩ := ha.ex
  exact ⟨_, pe_callGK h3 h.room h.gu hg h1 h2 (KwOk.bind hb) pass0 p1 hall hks nd hpl, gw_callK g1⟩
theorem xb_fnK {F : List D → Option W} {js : List Nat} {n : Nat} {f : Env → Option (List D)} (h : Knows X k x fd ps (spF F)) (hb : KwOk X.K fd ps ks js) (ha : XBKs X kws f) (hn : ks.length = n := by rfl) (hg : Gl X x := by rfl)
    (hall : (backToKw pos (keywordEach kws X.env)).all (·.1.isSome) = true := by rfl) (hks : (backToKw pos (keywordEach kws X.env)).filterMap (·.1) = ks := by rfl) (nd : (x == ("__debug__" : Str)) = false := by decide)
    (hpl : ((backTo pos (starEach [] X.env)).any (·.1) || (backToKw pos (keywordEach kws X.env)).any (·.1.isNone)) = false := by rfl) : XB X (.Call (.Name x p) [] kws pos) (bFK F n js f) := by
  subst hn
  obtain ⟨fa, h1, h2, h3⟩ := h.ex
  obtain ⟨t, p1, g1⟩ := ha.ex
  exact ⟨_, pe_callGK h3 h.room h.gu hg h1 h2 (KwOk.bind hb) pass0 p1 hall hks nd hpl, gb_callK g1⟩
/-! ### methods of a list of one's own -/
variable {y : Str} {py : Pos}
theorem xw_app {f : Env → Option (D × Env)} (i : Nat) (ha : XD X e f) (hN : X.N[i]? = some y := by rfl) (hv : Vis X.env.scope y := by first | exact Or.inl rfl | exact Or.inr (Or.inl rfl) | exact Or.inr (Or.inr rfl)) (hd : (y == ("__debug__" : Str)) = false := by decide) (hcd : (y == ("__classdict__" : Str)) = false := by decide)
    (hbase : attributeBase (.Name y py) "append" X.env (eval (.Name y py) X.env) = eval (.Name y py) X.env := by rfl)
    (hfew : ((backTo pos (starEach [e] X.env)).all (fun x => !x.1) && (backToKw pos (keywordEach [] X.env)).all (fun x => x.1.isSome) && decide ([e].length + ([] : List Keyword).length + (if ([] : List Keyword).isEmpty then 0 else 1) < 30)) = true := by rfl)
    (hline : (apos.endLine == pos.line) = true := by rfl) (hs : starEach [e] X.env = (false, eval e X.env) :: starEach [] X.env := by rfl) (hpl : (backTo pos (starEach [] X.env)).any (·.1) = false := by rfl) : XW X (.Call (.Attribute (.Name y py) "append" apos) [e] [] pos) (eApp i f) := by
  obtain ⟨t, p1, g1⟩ := ha.ex
  exact ⟨_, pe_bm PySem.F.plainAttrs_list PySem.F.slot_list_append PySem.F.type_list_append mt_append (pe_var hN hv hd hcd) (pa_cons p1 pa_nil hs) hbase hfew hline hs hpl, gw_app g1⟩
theorem xw_ins {f g : Env → Option (D × Env)} (i : Nat) (ha : XD X a f) (hb : XD X b g) (hN : X.N[i]? = some y := by rfl) (hv : Vis X.env.scope y := by first | exact Or.inl rfl | exact Or.inr (Or.inl rfl) | exact Or.inr (Or.inr rfl)) (hd : (y == ("__debug__" : Str)) = false := by decide) (hcd : (y == ("__classdict__" : Str)) = false := by decide)
    (hbase : attributeBase (.Name y py) "insert" X.env (eval (.Name y py) X.env) = eval (.Name y py) X.env := by rfl)
    (hfew : ((backTo pos (starEach [a, b] X.env)).all (fun x => !x.1) && (backToKw pos (keywordEach [] X.env)).all (fun x => x.1.isSome) && decide ([a, b].length + ([] : List Keyword).length + (if ([] : List Keyword).isEmpty then 0 else 1) < 30)) = true := by rfl)
    (hline : (apos.endLine == pos.line) = true := by rfl) (hs : starEach [a, b] X.env = (false, eval a X.env) :: starEach [b] X.env := by rfl) (hs2 : starEach [b] X.env = (false, eval b X.env) :: starEach [] X.env := by rfl) (hpl : (backTo pos (starEach [b] X.env)).any (·.1) = false := by rfl) :
    XW X (.Call (.Attribute (.Name y py) "insert" apos) [a, b] [] pos) (eIns i f g) := by
  obtain ⟨t, p1, g1⟩ := ha.ex
  obtain ⟨u, p2, g2⟩ := hb.ex
  exact ⟨_, pe_bm PySem.F.plainAttrs_list PySem.F.slot_list_insert PySem.F.type_list_insert mt_insert (pe_var hN hv hd hcd) (pa_cons p1 (pa_cons p2 pa_nil hs2) hs) hbase hfew hline hs hpl, gw_ins g1 g2⟩
theorem xw_pop (i : Nat) (hN : X.N[i]? = some y := by rfl) (hv : Vis X.env.scope y := by first | exact Or.inl rfl | exact Or.inr (Or.inl rfl) | exact Or.inr (Or.inr rfl)) (hd : (y == ("__debug__" : Str)) = false := by decide) (hcd : (y == ("__classdict__" : Str)) = false := by decide)
    (hbase : attributeBase (.Name y py) "pop" X.env (eval (.Name y py) X.env) = eval (.Name y py) X.env := by rfl) (hline : (apos.endLine == pos.line) = true := by rfl) : XW X (.Call (.Attribute (.Name y py) "pop" apos) [] [] pos) (ePop i) :=
  ⟨_, pe_bm0 PySem.F.plainAttrs_list PySem.F.slot_list_pop PySem.F.type_list_pop mt_pop (pe_var hN hv hd hcd) hbase hline, gw_pop⟩
/-- x[k].append('..'), x a nest -/
theorem xw_appK {p1 p2 p3 : Pos} {kk : Nat} {z : Str} {j1 j2 : Nat} (i : Nat) (hN : X.N[i]? = some y := by rfl) (hv : Vis X.env.scope y := by first | exact Or.inl rfl | exact Or.inr (Or.inl rfl) | exact Or.inr (Or.inr rfl)) (hd : (y == ("__debug__" : Str)) = false := by decide) (hcd : (y == ("__classdict__" : Str)) = false := by decide)
    (hbase : attributeBase (.Subscript (.Name y py) (.Constant (.int (kk : Int)) j1 p1) p2) "append" X.env (eval (.Subscript (.Name y py) (.Constant (.int (kk : Int)) j1 p1) p2) X.env) = eval (.Subscript (.Name y py) (.Constant (.int (kk : Int)) j1 p1) p2) X.env := by rfl)
    (hfew : ((backTo pos (starEach [.Constant (.str z) j2 p3] X.env)).all (fun x => !x.1) && (backToKw pos (keywordEach [] X.env)).all (fun x => x.1.isSome) && decide ([Expr.Constant (.str z) j2 p3].length + ([] : List Keyword).length + (if ([] : List Keyword).isEmpty then 0 else 1) < 30)) = true := by rfl)
    (hline : (apos.endLine == pos.line) = true := by rfl) : XW X (.Call (.Attribute (.Subscript (.Name y py) (.Constant (.int (kk : Int)) j1 p1) p2) "append" apos) [.Constant (.str z) j2 p3] [] pos) (eAppK i kk (.str z)) :=
  ⟨_, pe_bm PySem.F.plainAttrs_list PySem.F.slot_list_append PySem.F.type_list_append mt_append (pe_ix ix_seq (pe_var hN hv hd hcd) pe_int (fun _ _ => rfl)) (pa_cons pe_str pa_nil) hbase hfew hline rfl rfl, gw_appK fun _ => .str z⟩
/-! ### what is walked; comprehensions -/
variable {tg it : Expr}
theorem xi_s {f : Env → Option (D × Env)} (h : XD X it f) : XI X tg it (iS f) := let ⟨_, p, g⟩ := h.ex; ⟨_, pi_seq p, gi_seq g⟩
def iR1 (f : Env → Option (List Opd × Env)) : Env → Option (List D × Env) := fun env => bd (f env) fun os e => if os.length = 1 then bo (looks e os) fun ds => bo (rngI ds) fun xs => some (xs, e) else none
def iR2 (f : Env → Option (List Opd × Env)) : Env → Option (List D × Env) := fun env => bd (f env) fun os e => if os.length = 2 then bo (looks e os) fun ds => bo (rngI ds) fun xs => some (xs, e) else none
theorem xi_r1 (hm : X.mg "range" = none) (ha : XA X [a] fa) (hg : Gl X "range" := by rfl) (hs : starEach [a] X.env = [(false, eval a X.env)] := by rfl) : XI X tg (.Call (.Name "range" p) [a] [] pos) (iR1 fa) := let ⟨_, q, g⟩ := ha.ex; ⟨_, pi_range1 hg hm q hs, gi_rng1 g⟩
theorem xi_r2 (hm : X.mg "range" = none) (ha : XA X [a, b] fa) (hg : Gl X "range" := by rfl) (hs : starEach [a, b] X.env = [(false, eval a X.env), (false, eval b X.env)] := by rfl) (hs2 : starEach [b] X.env = [(false, eval b X.env)] := by rfl) : XI X tg (.Call (.Name "range" p) [a, b] [] pos) (iR2 fa) := let ⟨_, q, g⟩ := ha.ex; ⟨_, pi_range2 hg hm q hs hs2, gi_rng2 g⟩
theorem xg_n (i : Nat) (hN : X.N.Nodup) (hi : X.N[i]? = some x := by rfl) (hx : Loc X.env.scope x := by first | exact Or.inl rfl | exact Or.inr rfl) (hf : X.fn x = true ∨ X.env.scope.names.lookup x = some .local := by first | exact .inl rfl | exact .inr rfl) : XG X (.Name x pos) (tgN i) [i] := ⟨_, pg_name hN hi hx hf, gg_name⟩
structure XGs (X : Cx) (es : List Expr) (tg : List D → Env → Option Env) (js : List Nat) : Prop where ex : ∃ t, PGs X es t ∧ GGs t tg js
theorem xgs_n : XGs X [] tgZ [] := ⟨_, pgs_nil, ggs_nil⟩
theorem xgs_c {t : D → Env → Option Env} {u : List D → Env → Option Env} {js js2 : List Nat} (h : XG X e t js) (r : XGs X es u js2) (hs : (assignEach (e :: es) X.env).map (·.2) = assign e X.env :: (assignEach es X.env).map (·.2) := by rfl) : XGs X (e :: es) (tgC t u) (js ++ js2) := by
  obtain ⟨t1, p1, g1⟩ := h.ex
  obtain ⟨t2, p2, g2⟩ := r.ex
  exact ⟨_, pgs_cons p1 p2 hs, ggs_cons g1 g2⟩
def tgU (n : Nat) (u : List D → Env → Option Env) : D → Env → Option Env := fun d env => match d with
  | .tuple ds => if ds.length = n then u ds env else none
  | _ => none
theorem xg_t {u : List D → Env → Option Env} {js : List Nat} {n kt : Nat} (h : XGs X es u js) (hc : X.calm = true := by rfl) (hn : (assignEach es X.env).length = n := by rfl) (hst : (assignEach es X.env).findIdx? (·.1) = none := by rfl) : XG X (.Tuple es kt pos) (tgU n u) js := by
  obtain ⟨t1, p1, g1⟩ := h.ex
  exact ⟨_, pg_tup hc p1 hn hst, gg_tup g1⟩
/-- contexts of a comprehension's block -/
abbrev Blk (X : Cx) (scope : Scope) (P : Cx → Prop) : Prop := ∀ (s : Shared) (H : Hp) (C : Addr) (cl : List (Str × Addr)) (fp : List Addr), P (X.blk s H scope (compEnvC scope cl C X.env) fp)
/-- the readings that are told by what they compute -/
def cD (f : Env → Option (D × Env)) : TE := fun σ H Q => ∃ B O env d env', Rep B H σ env O ∧ f env = some (d, env') ∧ ∀ v B' H' O', Gr B H O B' H' O' → Rep B' H' σ env' O' → DV B' v d → Q v H'
def cT (f : Env → Option (Bool × Env)) : TT := fun σ H Q => ∃ B O env b env', Rep B H σ env O ∧ f env = some (b, env') ∧ ∀ B' H' O', Gr B H O B' H' O' → Rep B' H' σ env' O' → Q b H'
def cG (tg : D → Env → Option Env) (js : List Nat) : TG := fun v σ H Q => ∃ B O env d env', Rep B H σ env O ∧ DV B v d ∧ tg d env = some env' ∧ ∀ σ' O', Rep B H σ' env' O' → (∀ a ∈ O', a ∈ O) → σ'.length = σ.length → (∀ i, i ∉ js → σ'[i]? = σ[i]?) → Q σ' H
theorem gd_can {f : Env → Option (D × Env)} : GD (cD f) f := fun B H O σ env r d env' e Q q => ⟨B, O, env, d, env', r, e, q⟩
theorem gt_can {f : Env → Option (Bool × Env)} : GT (cT f) f := fun B H O σ env r d env' e Q q => ⟨B, O, env, d, env', r, e, q⟩
theorem gg_can {t : D → Env → Option Env} {js : List Nat} : GG (cG t js) t js := fun B H O σ env v d r k env' e Q q => ⟨B, O, env, d, env', r, k, e, q⟩
theorem XD.can {f : Env → Option (D × Env)} (h : XD X e f) : PE X e (cD f) := by
  obtain ⟨t, p, g⟩ := h.ex
  exact ⟨fun pins s σ H Q I ⟨B, O, env, d, env', r, h1, q⟩ => p.run pins s σ H Q I (g B H O σ env r d env' h1 Q q)⟩
theorem XT.can {f : Env → Option (Bool × Env)} (h : XT X e f) : PT X e (cT f) := by
  obtain ⟨t, p, g⟩ := h.ex
  exact ⟨fun pins s σ H Q I ⟨B, O, env, d, env', r, h1, q⟩ => p.run pins s σ H Q I (g B H O σ env r d env' h1 Q q)⟩
theorem XG.can {t : D → Env → Option Env} {js : List Nat} (h : XG X e t js) : PG X e (cG t js) := by
  obtain ⟨u, p, g⟩ := h.ex
  exact ⟨fun pins s σ H v z Q I rv ⟨B, O, env, d, env', r, k, h1, q⟩ => p.run pins s σ H v z Q I rv (g B H O σ env v d r k env' h1 Q q)⟩
variable {elt : Expr} {scope : Scope} {fi : Env → Option (List D × Env)} {tt : D → Env → Option Env} {js : List Nat} {fe : Env → Option (D × Env)} {ft : Env → Option (Bool × Env)}
theorem xw_lc (own : List (Str × Nat)) (hN : X.N.Nodup) (hi : XI X tg it fi) (ok : BlkOk X.N X.env.scope scope own) (hg : Blk X scope fun Y => XG Y tg tt js) (he : Blk X scope fun Y => XD Y elt fe) (hj : ∀ j ∈ js, j ∈ own.map (·.2) := by decide) (hc : X.calm = true := by rfl)
    (hs : ∀ x, foldedSetIterable it X.env x = pure x := by intro _; rfl) : XW X (.ListComp elt [⟨tg, it, [], 0⟩] scope pos) (eLc fi tt tYs fe (own.map (·.2))) := by
  obtain ⟨ti, p1, g1⟩ := hi.ex
  exact ⟨_, pe_lc hc hN p1 ok (fun s H C cl fp => (hg s H C cl fp).can) (fun _ _ _ _ _ => pts_nil) (fun s H C cl fp => (he s H C cl fp).can) hs, gw_lc g1 gg_can gt_yes gd_can hj⟩
theorem xw_lcI (own : List (Str × Nat)) (hN : X.N.Nodup) (hi : XI X tg it fi) (ok : BlkOk X.N X.env.scope scope own) (hg : Blk X scope fun Y => XG Y tg tt js) (ht : Blk X scope fun Y => XT Y c ft) (he : Blk X scope fun Y => XD Y elt fe) (hj : ∀ j ∈ js, j ∈ own.map (·.2) := by decide) (hc : X.calm = true := by rfl)
    (hs : ∀ x, foldedSetIterable it X.env x = pure x := by intro _; rfl) : XW X (.ListComp elt [⟨tg, it, [c], 0⟩] scope pos) (eLc fi tt ft fe (own.map (·.2))) := by
  obtain ⟨ti, p1, g1⟩ := hi.ex
  exact ⟨_, pe_lc hc hN p1 ok (fun s H C cl fp => (hg s H C cl fp).can) (fun s H C cl fp => pts_one (ht s H C cl fp).can) (fun s H C cl fp => (he s H C cl fp).can) hs, gw_lc g1 gg_can gt_can gd_can hj⟩
/-! ### statements -/
variable {st : Stmt} {sts : List Stmt} {fw : Env → Option (W × Env)}
theorem xs_set (i : Nat) (he : XW X e fw) (hN : X.N.Nodup) (hi : X.N[i]? = some x := by rfl) (hx : Loc X.env.scope x := by first | exact Or.inl rfl | exact Or.inr rfl) (hs : swapsWith e (some (.Name x p)) pos.line X.env = pure false := by rfl)
    (hf : X.fn x = true ∨ X.env.scope.names.lookup x = some .local := by first | exact .inl rfl | exact .inr rfl) : XS X (.Assign [.Name x p] e pos) (sSet i fw) := let ⟨_, q, g⟩ := he.ex; ⟨_, ps_set hN hi hx q hs hf, gs_set g⟩
theorem xs_setLc (i : Nat) {lpos : Pos} (own : List (Str × Nat)) (hN : X.N.Nodup) (hk : X.env.scope.kind = .function) (hi : XI X tg it fi) (ok : BlkOk X.N X.env.scope scope own) (hg : Blk X scope fun Y => XG Y tg tt js) (he : Blk X scope fun Y => XD Y elt fe) (hsc : (scope.names.any fun (n, k) => n == x && (k == .local || k == .cell)) = false) (hj : ∀ j ∈ js, j ∈ own.map (·.2) := by decide) (hc : X.calm = true := by rfl)
    (hy : X.N[i]? = some x := by rfl) (hyl : X.env.scope.names.lookup x = some .local := by rfl) (hl : (p.line == lpos.line) = true := by rfl)
    (hs : ∀ x, foldedSetIterable it X.env x = pure x := by intro _; rfl) : XS X (.Assign [.Name x p] (.ListComp elt [⟨tg, it, [], 0⟩] scope lpos) pos) (sSet i (eLc fi tt tYs fe (own.map (·.2)))) := by
  obtain ⟨ti, p1, g1⟩ := hi.ex
  exact ⟨_, ps_setLc hc hN hy hyl (sw_true hk hyl hl hsc) p1 ok (fun s H C cl fp => (hg s H C cl fp).can) (fun _ _ _ _ _ => pts_nil) (fun s H C cl fp => (he s H C cl fp).can) hs, gs_set (gw_lc g1 gg_can gt_yes gd_can hj)⟩
theorem xs_setLcI (i : Nat) {lpos : Pos} (own : List (Str × Nat)) (hN : X.N.Nodup) (hk : X.env.scope.kind = .function) (hi : XI X tg it fi) (ok : BlkOk X.N X.env.scope scope own) (hg : Blk X scope fun Y => XG Y tg tt js) (ht : Blk X scope fun Y => XT Y c ft) (he : Blk X scope fun Y => XD Y elt fe) (hsc : (scope.names.any fun (n, k) => n == x && (k == .local || k == .cell)) = false) (hj : ∀ j ∈ js, j ∈ own.map (·.2) := by decide) (hc : X.calm = true := by rfl)
    (hy : X.N[i]? = some x := by rfl) (hyl : X.env.scope.names.lookup x = some .local := by rfl) (hl : (p.line == lpos.line) = true := by rfl)
    (hs : ∀ x, foldedSetIterable it X.env x = pure x := by intro _; rfl) : XS X (.Assign [.Name x p] (.ListComp elt [⟨tg, it, [c], 0⟩] scope lpos) pos) (sSet i (eLc fi tt ft fe (own.map (·.2)))) := by
  obtain ⟨ti, p1, g1⟩ := hi.ex
  exact ⟨_, ps_setLc hc hN hy hyl (sw_true hk hyl hl hsc) p1 ok (fun s H C cl fp => (hg s H C cl fp).can) (fun s H C cl fp => pts_one (ht s H C cl fp).can) (fun s H C cl fp => (he s H C cl fp).can) hs, gs_set (gw_lc g1 gg_can gt_can gd_can hj)⟩
theorem xs_ret (he : XW X e fw) : XS X (.Return (some e) pos) (sRet fw) := let ⟨_, q, g⟩ := he.ex; ⟨_, ps_ret q, gs_ret g⟩
theorem xs_retN : XS X (.Return none pos) sRetN := ⟨_, ps_retN, gs_retN⟩
theorem xs_expr (he : XW X e fw) (hs : swapsWith e none pos.line X.env = pure false := by rfl) : XS X (.Expr e pos) (sDrop fw) := let ⟨_, q, g⟩ := he.ex; ⟨_, ps_expr q hs, gs_drop g⟩
theorem xs_if {ss us : List Stmt} {h : Env → Option (Bool × Env)} {f g : Env → Option (Fl × Env)} (hc : XT X c h) (ha : XSs X ss f) (hb : XSs X us g) : XS X (.If c ss us pos) (sIf h f g) := by
  obtain ⟨t1, p1, g1⟩ := hc.ex
  obtain ⟨t2, p2, g2⟩ := ha.ex
  obtain ⟨t3, p3, g3⟩ := hb.ex
  exact ⟨_, ps_if p1 p2 p3, gs_if g1 g2 g3⟩
theorem xs_for {f : Env → Option (Fl × Env)} (hi : XI X tg it fi) (hg : XG X tg tt js) (hb : XSs X sts f) (hp : PassesOwn (model X.prog X.w) X.A X.env X.xe := by exact PassesOwn.never) (hc : X.calm = true := by rfl) (hs : ∀ x, foldedSetIterable it X.env x = pure x := by intro _; rfl) : XS X (.For tg it sts [] pos) (sFor fi tt f) := by
  obtain ⟨t1, p1, g1⟩ := hi.ex
  obtain ⟨t2, p2, g2⟩ := hg.ex
  obtain ⟨t3, p3, g3⟩ := hb.ex
  exact ⟨_, ps_for hp hc p1 p2 p3 hs, gs_for g1 g2 g3⟩
theorem xs_while (n : Nat) {h : Env → Option (Bool × Env)} {f : Env → Option (Fl × Env)} (hc : XT X c h) (hb : XSs X sts f) (hp : PassesOwn (model X.prog X.w) X.A X.env X.xe := by exact PassesOwn.never) : XS X (.While c sts [] pos) (wLoop h f n) := by
  obtain ⟨t1, p1, g1⟩ := hc.ex
  obtain ⟨t2, p2, g2⟩ := hb.ex
  exact ⟨_, ps_while hp p1 p2, gs_while n g1 g2⟩
theorem xs_par (i j : Nat) {y : Str} {px py pt pt2 : Pos} {kt k2 : Nat} {f : Env → Option (List D × Env)} (ha : XAD X [a, b] f) (hN : X.N.Nodup) (hij : i ≠ j := by decide) (hi : X.N[i]? = some x := by rfl) (hj : X.N[j]? = some y := by rfl) (hx : X.env.scope.names.lookup x = some .local := by rfl) (hy : X.env.scope.names.lookup y = some .local := by rfl) (hc : X.calm = true := by rfl)
    (hw : swappedStores [.Tuple [.Name x px, .Name y py] kt pt] (.Tuple [a, b] k2 pt2) X.env = pure (some [x, y]) := by rfl) (hs : swapsWithSole [.Tuple [.Name x px, .Name y py] kt pt] (.Tuple [a, b] k2 pt2) pos.line X.env = pure false := by rfl) :
    XS X (.Assign [.Tuple [.Name x px, .Name y py] kt pt] (.Tuple [a, b] k2 pt2) pos) (sPar i j f) := let ⟨_, q, g⟩ := ha.ex; ⟨_, ps_par hc hN hi hj hij hx hy q hw hs, gs_par g⟩
/-- a target of any form -/
def sAsg (t : D → Env → Option Env) (f : Env → Option (D × Env)) : Env → Option (Fl × Env) := fun env => bd (f env) fun d e => bo (t d e) fun e' => some (.nx, e')
theorem gs_asg {te : TE} {g : TG} {t : D → Env → Option Env} {js : List Nat} {f : Env → Option (D × Env)} (h : GD te f) (hg : GG g t js) : GS (tAsg te g) (sAsg t f) := fun B H O σ env r fl env' e Dn q => by
  obtain ⟨d, e1, h1, e⟩ := bd_inv e
  obtain ⟨e2, h2, e⟩ := bo_inv e
  cases e
  refine h B H O σ env r d e1 h1 _ fun v B1 H1 O1 g1 r1 k1 => ?_
  exact hg B1 H1 O1 σ e1 v d r1 k1 _ h2 _ fun σ' O' r2 s2 _ _ => q σ' B1 H1 O' (g1.less s2) r2
theorem xs_asg {f : Env → Option (D × Env)} (he : XD X e f) (hg : XG X tg tt js) (hs : swapsWithSole [tg] e pos.line X.env = pure false := by rfl) (hw : swappedStores [tg] e X.env = pure none := by rfl) (h1 : (assignEach [tg] X.env).map (·.2) = [assign tg X.env] := by rfl) : XS X (.Assign [tg] e pos) (sAsg tt f) := by
  obtain ⟨t1, p1, g1⟩ := he.ex
  obtain ⟨t2, p2, g2⟩ := hg.ex
  exact ⟨_, ps_asg p1 p2 hs hw h1, gs_asg g1 g2⟩
theorem xs_add (i : Nat) {f : Env → Option (D × Env)} (he : XD X e f) (hN : X.N.Nodup) (hi : X.N[i]? = some x := by rfl) (hx : Loc X.env.scope x := by first | exact Or.inl rfl | exact Or.inr rfl) (hf : X.fn x = true ∨ X.env.scope.names.lookup x = some .local := by first | exact .inl rfl | exact .inr rfl) :
    XS X (.AugAssign (.Name x p) .Add e pos) (sAug i (fun a b => a + b) f) := let ⟨_, q, g⟩ := he.ex; ⟨_, ps_aug hN hi hx q ip_add hf, gs_aug g⟩
theorem xs_ix (i : Nat) {f g : Env → Option (D × Env)} (he : XD X e f) (hk : XD X b g) (hN : X.N[i]? = some x := by rfl) (hv : Vis X.env.scope x := by first | exact Or.inl rfl | exact Or.inr (Or.inl rfl) | exact Or.inr (Or.inr rfl)) (hd : (x == ("__debug__" : Str)) = false := by decide) (hcd : (x == ("__classdict__" : Str)) = false := by decide)
    (ha : ∀ v, assign (.Subscript (.Name x p) b apos) X.env v = (do
      let ov ← holding [v] (eval (.Name x p) X.env)
      let iv ← holding [v, ov] (eval b X.env)
      standAt apos
      holding [v, ov, iv] (setItem ov iv v)
      release [v, ov, iv] []) := by intro _; rfl) (hs : swapsWithSole [.Subscript (.Name x p) b apos] e pos.line X.env = pure false := by rfl) (hw : swappedStores [.Subscript (.Name x p) b apos] e X.env = pure none := by rfl)
    (h1 : (assignEach [.Subscript (.Name x p) b apos] X.env).map (·.2) = [assign (.Subscript (.Name x p) b apos) X.env] := by rfl) : XS X (.Assign [.Subscript (.Name x p) b apos] e pos) (sIx i g f) := by
  obtain ⟨t1, p1, g1⟩ := he.ex
  obtain ⟨t2, p2, g2⟩ := hk.ex
  exact ⟨_, ps_asg p1 (pg_sub (pe_var hN hv hd hcd) p2 set_list ha) hs hw h1, gs_ix g1 g2⟩
theorem xs_never : XS X st sNever := ⟨_, ps_never, gs_never⟩
theorem xss_n : XSs X [] sNx := ⟨_, pss_nil, gs_next⟩
theorem xss_c {f g : Env → Option (Fl × Env)} (h : XS X st f) (r : XSs X sts g) : XSs X (st :: sts) (sSeq f g) := by
  obtain ⟨t1, p1, g1⟩ := h.ex
  obtain ⟨t2, p2, g2⟩ := r.ex
  exact ⟨_, pss_cons p1 p2, gs_seq g1 g2⟩
theorem xss_1 {f : Env → Option (Fl × Env)} (h : XS X st f) : XSs X [st] f := let ⟨_, p, g⟩ := h.ex; ⟨_, pss_one p, g⟩
/-- a, b = x, y, each with what it owns -/
def sParN (i j : Nat) (f : Env → Option (List W × Env)) : Env → Option (Fl × Env) := fun env => bd (f env) fun ws e => match ws with
  | [v, w] => some (.nx, put (put e i v) j w)
  | _ => none
theorem gs_parN {i j : Nat} {t : TA} {f : Env → Option (List W × Env)} (h : GN t f) : GS (tPar i j t) (sParN i j f) := fun B H O σ env r fl env' e Dn q => by
  obtain ⟨ws, e1, h1, e⟩ := bd_inv e
  refine h B H O σ env r ws e1 h1 _ fun vs A B1 H1 O1 g1 r1 k1 n1 f1 => ?_
  match vs, ws, A, k1 with
  | _, [], _, _ => cases e
  | _, [_], _, _ => cases e
  | _, _ :: _ :: _ :: _, _, _ => cases e
  | _, [w1, w2], _, .cons (v := v1) (A := A1) s1 (.cons (v := v2) (A := A2) s2 .nil) =>
    cases e
    rw [List.append_nil] at n1 f1 g1
    obtain ⟨n2, n3, n4⟩ := List.nodup_append.mp n1
    obtain ⟨O2, r2, t2⟩ := r1.store (w := w1) ⟨s1, n2, fun a m => (f1 a (List.mem_append_left _ m)).1, fun a m => (f1 a (List.mem_append_left _ m)).2⟩ i
    have d2 : ∀ a ∈ A2, a ∉ O2 := fun a m z => (List.mem_append.mp (t2 a z)).elim (fun y => n4 a y a m rfl) (f1 a (List.mem_append_right _ m)).1
    obtain ⟨O3, r3, t3⟩ := r2.store (w := w2) ⟨s2, n3, d2, fun a m => (f1 a (List.mem_append_right _ m)).2⟩ j
    refine ⟨v1, v2, rfl, q _ B1 H1 O3 (g1.less fun a m => ?_) r3⟩
    rcases List.mem_append.mp (t3 a m) with y | y
    · exact List.mem_append_left _ (List.mem_append_right _ y)
    · rcases List.mem_append.mp (t2 a y) with z | z
      · exact List.mem_append_left _ (List.mem_append_left _ z)
      · exact List.mem_append_right _ z
theorem xs_parN (i j : Nat) {y : Str} {px py pt pt2 : Pos} {kt k2 : Nat} {f : Env → Option (List W × Env)} (ha : XN X [a, b] f) (hN : X.N.Nodup) (hij : i ≠ j := by decide) (hi : X.N[i]? = some x := by rfl) (hj : X.N[j]? = some y := by rfl) (hx : X.env.scope.names.lookup x = some .local := by rfl) (hy : X.env.scope.names.lookup y = some .local := by rfl) (hc : X.calm = true := by rfl)
    (hw : swappedStores [.Tuple [.Name x px, .Name y py] kt pt] (.Tuple [a, b] k2 pt2) X.env = pure (some [x, y]) := by rfl) (hs : swapsWithSole [.Tuple [.Name x px, .Name y py] kt pt] (.Tuple [a, b] k2 pt2) pos.line X.env = pure false := by rfl) :
    XS X (.Assign [.Tuple [.Name x px, .Name y py] kt pt] (.Tuple [a, b] k2 pt2) pos) (sParN i j f) := let ⟨_, q, g⟩ := ha.ex; ⟨_, ps_par hc hN hi hj hij hx hy q hw hs, gs_parN g⟩
/-- a, b, .. = x, y, .. with any of them cells: the tuple is made and taken apart -/
def puts : List Nat → List W → Env → Env
  | i :: is, w :: ws, env => puts is ws (put env i w)
  | _, _, env => env
def gNms : List Nat → TGs
  | [] => gNil
  | i :: is => gCons (gName i) (gNms is)
theorem gns_run : ∀ {is : List Nat} {vs : List V} {ws : List W} {A : List Addr} {B H : Hp} {O : List Addr} {σ : L2.St} {env : Env}, Rep B H σ env O → SRs B H vs ws A → A.Nodup → (∀ a ∈ A, a ∉ O ∧ B a = none) → ws.length = is.length →
    ∀ Q : L2.St → Hp → Prop, (∀ σ' O', Rep B H σ' (puts is ws env) O' → (∀ a ∈ O', a ∈ A ++ O) → Q σ' H) → gNms is vs σ H Q
  | [], _, _, _, _, _, O, σ, env, r, .nil, _, _, _, Q, q => ⟨rfl, q σ O r fun a m => by simpa using m⟩
  | [], _, _, _, _, _, _, _, _, _, .cons _ _, _, _, l, _, _ => by simp at l
  | i :: is, _, _, _, _, _, _, _, _, _, .nil, _, _, l, _, _ => by simp at l
  | i :: is, _, _, _, B, H, O, σ, env, r, .cons (v := v1) (A := A1) (O := A2) s1 ss, n1, f1, l, Q, q => by
    obtain ⟨n2, n3, n4⟩ := List.nodup_append.mp n1
    obtain ⟨O2, r2, t2⟩ := r.store ⟨s1, n2, fun a m => (f1 a (List.mem_append_left _ m)).1, fun a m => (f1 a (List.mem_append_left _ m)).2⟩ i
    refine ⟨_, _, rfl, gns_run (is := is) r2 ss n3 (fun a m => ⟨fun z => ?_, (f1 a (List.mem_append_right _ m)).2⟩) (by simpa using l) Q fun σ' O' r3 s3 => q σ' O' r3 fun a m => ?_⟩
    · exact (List.mem_append.mp (t2 a z)).elim (fun y => n4 a y a m rfl) (f1 a (List.mem_append_right _ m)).1
    · rcases List.mem_append.mp (s3 a m) with y | y
      · exact List.mem_append_left _ (List.mem_append_right _ y)
      · rcases List.mem_append.mp (t2 a y) with z | z
        · exact List.mem_append_left _ (List.mem_append_left _ z)
        · exact List.mem_append_right _ z
def sUnp (is : List Nat) (f : Env → Option (List W × Env)) : Env → Option (Fl × Env) := fun env => bd (f env) fun ws e => if ws.length = is.length ∧ ws.length < 100 then some (.nx, puts is ws e) else none
theorem gs_unp {K : PySem.W.Frag} {is : List Nat} {n : Nat} {t : TA} {f : Env → Option (List W × Env)} (hn : is.length = n) (h : GN t f) : GS (tAsg (tTup t) (gTup K n (gNms is))) (sUnp is f) := fun B H O σ env r fl env' e Dn q => by
  obtain ⟨ws, e1, h1, e⟩ := bd_inv e
  by_cases hl : ws.length = is.length ∧ ws.length < 100
  · rw [if_pos hl] at e
    cases e
    refine h B H O σ env r ws e1 h1 _ fun vs A B1 H1 O1 g1 r1 k1 n1 f1 => ⟨sz1000 (by rw [k1.length]; omega), fun p hp => ⟨p, vs, rfl, SqT.of upd_same, by rw [k1.length, hl.1, hn], ?_⟩⟩
    have x1 : Ex H1 (upd H1 p (.tup vs)) := Ex.new hp
    refine gns_run (r1.ext x1) (k1.mono (Ex.refl _) fun a m o z => x1 a o z) n1 f1 hl.1 _ fun σ' O' r2 s2 => q σ' B1 _ O' ?_ r2
    exact (Gr.trans g1 ⟨Ex.refl _, fun a o z _ => x1 a o z, fun a z => .inl z, fun a m => .inl (s2 a m)⟩)
  · rw [if_neg hl] at e; cases e
/-- slots given up behind a loop's turn -/
def sWq (is : List Nat) (f : Env → Option (Fl × Env)) : Env → Option (Fl × Env) := fun env => match f env with
  | some (.nx, e) => some (.nx, wp is e)
  | some (.ct, e) => some (.ct, wp is e)
  | some (.bk, e) => some (.bk, wp is e)
  | r => r
theorem GS.wq {t : TS} {f : Env → Option (Fl × Env)} (is : List Nat) (h : GS t f) : GS t (sWq is f) := fun B H O σ env r fl env' e Dn q => by
  unfold sWq at e
  cases hf : f env with
  | none => rw [hf] at e; cases e
  | some p =>
    obtain ⟨fl1, e1⟩ := p
    rw [hf] at e
    refine h B H O σ env r fl1 e1 hf Dn ?_
    cases fl1 with
    | nx => cases e; exact fun σ' B' H' O' g r' => let ⟨O2, r2, s2⟩ := r'.wp is; q σ' B' H' O2 (g.less s2) r2
    | ct => cases e; exact fun σ' B' H' O' g r' => let ⟨O2, r2, s2⟩ := r'.wp is; q σ' B' H' O2 (g.less s2) r2
    | bk => cases e; exact fun σ' B' H' O' g r' => let ⟨O2, r2, s2⟩ := r'.wp is; q σ' B' H' O2 (g.less s2) r2
    | rt w => cases e; exact q
theorem xss_q {f : Env → Option (Fl × Env)} (is : List Nat) (h : XSs X sts f) : XSs X sts (sWq is f) := let ⟨_, p, g⟩ := h.ex; ⟨_, p, g.wq is⟩
/-- slots given up ahead of a block -/
theorem xss_w {f : Env → Option (Fl × Env)} (is : List Nat) (h : XSs X sts f) : XSs X sts (sWp is f) := let ⟨_, p, g⟩ := h.ex; ⟨_, p, g.wp is⟩
end
end Z

set_option Elab.async false
set_option linter.all false
set_option maxRecDepth 100000
set_option maxHeartbeats 4000000
/-! Z9: zip, enumerate, ranges down, list(range), bit_length, count; more of the pure. -/
namespace Z
open PySem PySem.Spec PyProof.Rows L2
open Evl (Ex)
section
variable {X : Cx} {pos p apos : Pos} {a b c e : Expr} {es : List Expr} {x y : Str} {tg it : Expr} {fa : Env → Option (List Opd × Env)}
/-! ### zip -/
def zipD : List D → List D → List D
  | x :: xs, y :: ys => .tuple [x, y] :: zipD xs ys
  | _, _ => []
theorem zipD_len : ∀ (xs ys : List D), (zipD xs ys).length = min xs.length ys.length
  | [], ys => by rw [List.length_nil, Nat.zero_min]; rfl
  | x :: xs, [] => by rw [List.length_nil, Nat.min_zero]; rfl
  | x :: xs, y :: ys => by
    show (zipD xs ys).length + 1 = _
    rw [zipD_len xs ys, List.length_cons, List.length_cons]
    omega
theorem zipD_get : ∀ {xs ys : List D} {i : Nat} {d : D}, (zipD xs ys)[i]? = some d → ∃ x y, xs[i]? = some x ∧ ys[i]? = some y ∧ d = .tuple [x, y]
  | [], _, _, _, h => by simp [zipD] at h
  | _ :: _, [], _, _, h => by simp [zipD] at h
  | x :: xs, y :: ys, 0, d, h => by
    cases (show some (PyData.tuple [x, y]) = some d from h)
    exact ⟨x, y, rfl, rfl, rfl⟩
  | x :: xs, y :: ys, i + 1, d, h => by
    obtain ⟨u, v, h1, h2, h3⟩ := zipD_get (xs := xs) (ys := ys) (i := i) (d := d) h
    exact ⟨u, v, h1, h2, h3⟩
theorem pair_new {B' H' : Hp} {T : Addr} {x y : V} {u v : D} (s : Ex B' H') (n : H' T = none) (hx : DV B' x u) (hy : DV B' y v) : ∃ B'', Gp B' H' B'' (upd H' T (.tup [x, y])) ∧ DV B'' (.ref T) (.tuple [u, v]) := by
  have z : Ex B' (upd B' T (.tup [x, y])) := Ex.new (Evl.fresh_back s n)
  exact ⟨_, Gp.new1 s n, .tup upd_same (by show 2 ≤ 2 ^ 24; omega) (.cons (hx.mono z) (.cons (hy.mono z) .nil))⟩
def iZ (f g : Env → Option (D × Env)) : Env → Option (List D × Env) := fun env => bd (f env) fun d e1 => bd (g e1) fun c e => match d, c with
  | .list xs, .list ys => some (zipD xs ys, e)
  | .tuple xs, .tuple ys => some (zipD xs ys, e)
  | _, _ => none
theorem gi_zip {K : PySem.W.Frag} {ta tb : TE} {f g : Env → Option (D × Env)} (ha : GD ta f) (hb : GD tb g) : GI (RZ.iZipA K (tCons ta (tCons tb tNil))) (iZ f g) := fun B H O σ env r ds env' e R q => by
  obtain ⟨d, e1, h1, e⟩ := bd_inv e
  obtain ⟨c, e2, h2, e⟩ := bd_inv e
  refine ha B H O σ env r d e1 h1 _ fun v B1 H1 O1 g1 r1 k1 => hb B1 H1 O1 σ e1 r1 c e2 h2 _ fun u B2 H2 O2 g2 r2 k2 => ?_
  have k1 := k1.mono g2.base
  cases k1 with
  | @lst pa vs xs m1 z1 n1 =>
    cases k2 with
    | @lst pb us ys m2 z2 n2 =>
      cases e
      refine ⟨pa, pb, vs, us, rfl, .inl ⟨SqL.of (r2.sub _ _ m1), SqL.of (r2.sub _ _ m2), q _ B2 H2 O2 (g1.trans g2) r2 (fun i B' H' x y => ⟨fun d hd => ?_, fun hi => ?_⟩) ?_⟩⟩
      · obtain ⟨dx, dy, p1, p2, rfl⟩ := zipD_get hd
        obtain ⟨vx, q1, w1⟩ := n1.get p1
        obtain ⟨vy, q2, w2⟩ := n2.get p2
        have s1 : SqL K H' pa vs := SqL.of (y _ _ (x _ _ m1))
        have s2 : SqL K H' pb us := SqL.of (y _ _ (x _ _ m2))
        refine ⟨⟨vs, us, vx, vy, s1, s2, q1, q2⟩, fun z H'' hy => ?_⟩
        obtain ⟨T, zx, zy, rfl, nT, rfl, f1, f2⟩ := hy
        have e1 := f1 vs s1
        have e2 := f2 us s2
        rw [q1] at e1; rw [q2] at e2
        cases e1; cases e2
        exact pair_new y nT (w1.mono x) (w2.mono x)
      · rw [zipD_len] at hi
        exact ⟨vs, us, SqL.of (y _ _ (x _ _ m1)), SqL.of (y _ _ (x _ _ m2)), by rw [n1.length, n2.length]; omega⟩
      · rw [zipD_len, ← n1.length]; omega
    | _ => cases e
  | @tup pa vs xs m1 z1 n1 =>
    cases k2 with
    | @tup pb us ys m2 z2 n2 =>
      cases e
      refine ⟨pa, pb, vs, us, rfl, .inr ⟨SqT.of (r2.sub _ _ m1), SqT.of (r2.sub _ _ m2), q _ B2 H2 O2 (g1.trans g2) r2 (fun i B' H' x y => ⟨fun d hd => ?_, fun hi => ?_⟩) ?_⟩⟩
      · obtain ⟨dx, dy, p1, p2, rfl⟩ := zipD_get hd
        obtain ⟨vx, q1, w1⟩ := n1.get p1
        obtain ⟨vy, q2, w2⟩ := n2.get p2
        have s1 : SqT K H' pa vs := SqT.of (y _ _ (x _ _ m1))
        have s2 : SqT K H' pb us := SqT.of (y _ _ (x _ _ m2))
        refine ⟨⟨vs, us, vx, vy, s1, s2, q1, q2⟩, fun z H'' hy => ?_⟩
        obtain ⟨T, zx, zy, rfl, nT, rfl, f1, f2⟩ := hy
        have e1 := f1 vs s1
        have e2 := f2 us s2
        rw [q1] at e1; rw [q2] at e2
        cases e1; cases e2
        exact pair_new y nT (w1.mono x) (w2.mono x)
      · rw [zipD_len] at hi
        exact ⟨vs, us, SqT.of (y _ _ (x _ _ m1)), SqT.of (y _ _ (x _ _ m2)), by rw [n1.length, n2.length]; omega⟩
      · rw [zipD_len, ← n1.length]; omega
    | _ => cases e
  | _ => cases e
theorem xi_zip {elts : List Expr} {kk : Nat} {tpos : Pos} {f g : Env → Option (D × Env)} (hm : X.mg "zip" = none) (ha : XD X a f) (hb : XD X b g) (hg : Gl X "zip" := by rfl) (hs : starEach [a, b] X.env = (false, eval a X.env) :: starEach [b] X.env := by rfl) (hs2 : starEach [b] X.env = (false, eval b X.env) :: starEach [] X.env := by rfl)
    (hpl : (backTo pos (starEach [b] X.env)).any (·.1) = false := by rfl) : XI X (.Tuple elts kk tpos) (.Call (.Name "zip" p) [a, b] [] pos) (iZ f g) := by
  obtain ⟨t, p1, g1⟩ := ha.ex
  obtain ⟨u, p2, g2⟩ := hb.ex
  exact ⟨_, RZ.pi_zipA hg hm (pa_cons p1 (pa_cons p2 pa_nil hs2) hs) hs hpl, gi_zip g1 g2⟩
/-! ### enumerate -/
def enD : Nat → List D → List D
  | _, [] => []
  | i, d :: ds => .tuple [.int (i : Int), d] :: enD (i + 1) ds
theorem enD_len : ∀ (ds : List D) (i : Nat), (enD i ds).length = ds.length
  | [], _ => rfl
  | d :: ds, i => by
    show (enD (i + 1) ds).length + 1 = _
    rw [enD_len ds, List.length_cons]
theorem enD_get : ∀ {ds : List D} {i j : Nat} {d : D}, (enD i ds)[j]? = some d → ∃ c, ds[j]? = some c ∧ d = .tuple [.int ((i + j : Nat) : Int), c]
  | [], _, _, _, h => by simp [enD] at h
  | c :: ds, i, 0, d, h => by
    cases (show some (PyData.tuple [.int (i : Int), c]) = some d from h)
    exact ⟨c, rfl, rfl⟩
  | c :: ds, i, j + 1, d, h => by
    obtain ⟨u, h1, h2⟩ := enD_get (ds := ds) (i := i + 1) (j := j) (d := d) h
    exact ⟨u, h1, by rw [h2]; congr 4; omega⟩
def iE (f : Env → Option (D × Env)) : Env → Option (List D × Env) := fun env => bd (f env) fun d e => match d with
  | .list ds => some (enD 0 ds, e)
  | _ => none
theorem gi_enum {K : PySem.W.Frag} {ta : TE} {f : Env → Option (D × Env)} (ha : GD ta f) : GI (iEnum K (tCons ta tNil)) (iE f) := fun B H O σ env r ds env' e R q => by
  obtain ⟨d, e1, h1, e⟩ := bd_inv e
  refine ha B H O σ env r d e1 h1 _ fun v B1 H1 O1 g1 r1 k1 => ?_
  cases k1 with
  | @lst pa vs xs m1 z1 n1 =>
    cases e
    refine ⟨pa, vs, rfl, SqL.of (r1.sub _ _ m1), q _ B1 H1 O1 g1 r1 (fun i B' H' x y => ⟨fun d hd => ?_, fun hi => ?_⟩) (by rw [enD_len, ← n1.length]; exact z1)⟩
    · obtain ⟨dx, p1, rfl⟩ := enD_get hd
      obtain ⟨vx, q1, w1⟩ := n1.get p1
      have s1 : SqL K H' pa vs := SqL.of (y _ _ (x _ _ m1))
      refine ⟨⟨vs, vx, s1, q1⟩, fun z H'' hy => ?_⟩
      obtain ⟨T, zx, rfl, nT, rfl, f1⟩ := hy
      have e1 := f1 vs s1
      rw [q1] at e1
      cases e1
      rw [Nat.zero_add]
      exact pair_new y nT (.int _) (w1.mono x)
    · rw [enD_len] at hi
      exact ⟨vs, SqL.of (y _ _ (x _ _ m1)), by rw [n1.length]; exact hi⟩
  | _ => cases e
theorem xi_enum {elts : List Expr} {kk : Nat} {tpos : Pos} {f : Env → Option (D × Env)} (hm : X.mg "enumerate" = none) (ha : XD X a f) (hg : Gl X "enumerate" := by rfl) (hs : starEach [a] X.env = [(false, eval a X.env)] := by rfl) (hs2 : starEach [a] X.env = (false, eval a X.env) :: starEach [] X.env := by rfl) :
    XI X (.Tuple elts kk tpos) (.Call (.Name "enumerate" p) [a] [] pos) (iE f) := by
  obtain ⟨t, p1, g1⟩ := ha.ex
  exact ⟨_, pi_enum hg hm (pa_cons p1 pa_nil hs2) hs, gi_enum g1⟩
/-! ### range(a, b, -1) -/
def rngDn (lo : Int) (n : Nat) : List D := (List.range n).map fun (i : Nat) => .int (lo - (i : Int))
def iRd (f : Env → Option (List Opd × Env)) : Env → Option (List D × Env) := fun env => bd (f env) fun os e => bo (looks e os) fun ds => match ds with
  | [.int i, .int j, .int k] => if inR i = true ∧ inR j = true ∧ k = -1 then some (rngDn i (i - j).toNat, e) else none
  | _ => none
theorem rngDn_get {lo : Int} {n i : Nat} {d : D} (h : (rngDn lo n)[i]? = some d) : i < n ∧ d = .int (lo - (i : Int)) := by
  unfold rngDn at h
  rw [List.getElem?_map] at h
  by_cases hi : i < n
  · rw [List.getElem?_range hi] at h
    cases h
    exact ⟨hi, rfl⟩
  · rw [List.getElem?_eq_none (by rw [List.length_range]; omega)] at h
    cases h
theorem gi_rngD {ta : TA} {f : Env → Option (List Opd × Env)} (h : GA ta f) : GI (iRng3 ta) (iRd f) := fun B H O σ env r ds env' e R q => by
  obtain ⟨os, e1, h1, e⟩ := bd_inv e
  obtain ⟨xs, h2, e⟩ := bo_inv e
  refine h B H O σ env r os e1 h1 _ fun vs B1 H1 O1 g1 r1 k1 => ?_
  have bv := k1.bvs r1 h2
  split at e
  · rename_i i j k
    by_cases hc : inR i = true ∧ inR j = true ∧ k = -1
    · rw [if_pos hc] at e
      cases e
      obtain ⟨i1, i2⟩ := inR_iff.mp hc.1
      obtain ⟨j1, j2⟩ := inR_iff.mp hc.2.1
      have hk := hc.2.2
      subst hk
      match vs, bv with
      | [_, _, _], .cons b1 (.cons b2 (.cons b3 .nil)) =>
        cases b1.int; cases b2.int; cases b3.int
        refine ⟨i, j, -1, (i - j).toNat, rfl, RgC.neg (by omega) (by omega) (by omega) (by omega), q _ B1 H1 O1 g1 r1 (fun n B' H' x y => ⟨fun d hd => ?_, fun hi => ?_⟩) ?_⟩
        · obtain ⟨n1, rfl⟩ := rngDn_get hd
          refine ⟨n1, fun u H'' hy => ?_⟩
          obtain ⟨rfl, rfl⟩ := hy
          refine ⟨B', Gp.refl y, ?_⟩
          have : i + (n : Int) * -1 = i - (n : Int) := by omega
          rw [this]; exact .int _
        · unfold rngDn at hi
          rw [List.length_map, List.length_range] at hi
          exact hi
        · unfold rngDn
          rw [List.length_map, List.length_range]
          exact szR (by omega)
    · rw [if_neg hc] at e; cases e
  · cases e
theorem xi_rd (hm : X.mg "range" = none) (ha : XA X [a, b, c] fa) (hg : Gl X "range" := by rfl) (hs : starEach [a, b, c] X.env = (false, eval a X.env) :: starEach [b, c] X.env := by rfl) (hpl : (backTo pos (starEach [b, c] X.env)).any (·.1) = false := by rfl) :
    XI X tg (.Call (.Name "range" p) [a, b, c] [] pos) (iRd fa) := let ⟨_, q, g⟩ := ha.ex; ⟨_, pi_range3 hg hm q hs hpl, gi_rngD g⟩
/-! ### list(range(n)) -/
def eLR (f : Env → Option (D × Env)) : Env → Option (W × Env) := fun env => bd (f env) fun d e => bo (intOf d) fun n => if inR n = true then some (.ow (rng 0 n.toNat), e) else none
theorem dvs_rgV {B : Hp} {a b : Int} : DVs B (rgV a b) (rng a (b - a).toNat) := by
  have key : ∀ (l : List Nat), DVs B (l.map fun (i : Nat) => V.int (a + (i : Int))) (l.map fun (i : Nat) => .int (a + (i : Int))) := fun l => by
    induction l with
    | nil => exact .nil
    | cons i r ih => exact .cons (.int _) ih
  exact key _
theorem gw_listR {ta : TE} {f : Env → Option (D × Env)} (h : GD ta f) : GW (tLstRg (tRg1 ta)) (eLR f) := fun B H O σ env r w env' e Q q => by
  obtain ⟨d, e1, h1, e⟩ := bd_inv e
  obtain ⟨n, h2, e⟩ := bo_inv e
  by_cases hn : inR n = true
  · rw [if_pos hn] at e
    cases e
    refine h B H O σ env r d _ h1 _ fun v B1 H1 O1 g1 r1 k1 => ?_
    cases d <;> first | (cases h2; done) | skip
    cases h2
    cases k1
    obtain ⟨n1, n2⟩ := inR_iff.mp hn
    refine ⟨n, rfl, ⟨by omega, by omega, by omega, by omega, by omega⟩, ?_⟩
    have key := new_list r1.sub (dvs_rgV (a := 0) (b := n) (B := B1)) (by have := (dvs_rgV (a := 0) (b := n) (B := B1)).length; rw [this, rng_len]; exact szR (by omega))
    rw [show n - 0 = n from by omega] at key
    exact key.end r1 fun v' A' B' H' O' g' r' k' => q v' A' B' H' O' (g1.trans g') r' k'
  · rw [if_neg hn] at e; cases e
theorem xw_listR {p2 pos2 : Pos} {f : Env → Option (D × Env)} (hm : X.mg "list" = none) (hm2 : X.mg "range" = none) (ha : XD X a f) (hc : X.calm = true := by rfl) (hg : Gl X "list" := by rfl) (hg2 : Gl X "range" := by rfl) (na : starEach [a] X.env = (false, eval a X.env) :: starEach [] X.env := by rfl)
    (nb : starEach [.Call (.Name "range" p2) [a] [] pos2] X.env = (false, eval (.Call (.Name "range" p2) [a] [] pos2) X.env) :: starEach [] X.env := by rfl) : XW X (.Call (.Name "list" p) [.Call (.Name "range" p2) [a] [] pos2] [] pos) (eLR f) := by
  obtain ⟨t, p1, g1⟩ := ha.ex
  exact ⟨_, pe_listRg hc hg hm (prg_1 hg2 hm2 p1 na) nb, gw_listR g1⟩
/-! ### n.bit_length(), xs.count(n) -/
def wBits : D → Option W
  | .int i => some (.sh (.int ((Builtin.Int.intBits i : Nat) : Int)))
  | _ => none
theorem gw_bits {ta : TE} {f : Env → Option (Opd × Env)} (ha : GO ta f) : GW (tBits ta) (eU wBits f) := fun B H O σ env rp w env' e Q q => by
  obtain ⟨a, e1, h1, e⟩ := bd_inv e
  obtain ⟨x, h3, e⟩ := bo_inv e
  obtain ⟨z, h5, e⟩ := bo_inv e
  cases e
  refine ha B H O σ env rp a _ h1 _ fun v B1 H1 O1 g1 r1 k1 => ?_
  have bv := k1.bv r1 h3
  cases x with
  | int i => cases h5; exact ⟨i, bv.int, q _ [] B1 H1 O1 g1 r1 (wr_sh (.int _))⟩
  | _ => cases h5
theorem xw_bits {f : Env → Option (Opd × Env)} (ha : XO X a f) (hbase : attributeBase a "bit_length" X.env (eval a X.env) = eval a X.env := by rfl) (hline : (apos.endLine == pos.line) = true := by rfl) : XW X (.Call (.Attribute a "bit_length" apos) [] [] pos) (eU wBits f) := by
  obtain ⟨t, p1, g1⟩ := ha.ex
  exact ⟨_, pe_bits p1 hbase hline, gw_bits g1⟩
def wCount (d c : D) : Option W := match d, c with
  | .list ds, .int k => bo (intsOf ds) fun ns => some (.sh (.int ((ns.count k : Nat) : Int)))
  | _, _ => none
theorem gw_count {K : PySem.W.Frag} {ta tb : TE} {f g : Env → Option (Opd × Env)} (ha : GO ta f) (hb : GO tb g) : GW (tBM K "list" (rCntI K) ta (tCons tb tNil)) (fun env => bd (f env) fun a e1 => bo (a.look e1) fun d1 => if isList d1 = true then bd (g e1) fun b e2 => bo (a.look e2) fun x => bo (b.look e2) fun y => bo (wCount x y) fun w => some (w, e2) else none) := fun B H O σ env rp w env' e Q q => by
  obtain ⟨a, e1, h1, e⟩ := bd_inv e
  obtain ⟨d1, h6, e⟩ := bo_inv e
  by_cases hl : isList d1 = true
  · rw [if_pos hl] at e
    obtain ⟨b, e2, h2, e⟩ := bd_inv e
    obtain ⟨x, h3, e⟩ := bo_inv e
    obtain ⟨y, h4, e⟩ := bo_inv e
    obtain ⟨z, h5, e⟩ := bo_inv e
    cases e
    refine ha B H O σ env rp a e1 h1 _ fun v B1 H1 O1 g1 r1 k1 => ?_
    have bv1 := k1.bv r1 h6
    cases d1 <;> first | (cases hl; done) | skip
    obtain ⟨p0, vs0, rfl, m0, _⟩ := bv1.list r1.sub
    refine ⟨.inl ⟨rfl, _, SqL.of m0⟩, hb B1 H1 O1 σ e1 r1 b _ h2 _ fun u B2 H2 O2 g2 r2 k2 => ?_⟩
    have bx := (k1.mono g2.base).bv r2 h3
    have bY := k2.bv r2 h4
    cases x with
    | list ds =>
      cases y with
      | int k =>
        obtain ⟨ns, h7, h5⟩ := bo_inv (show bo (intsOf ds) _ = some w from h5)
        cases h5
        obtain ⟨p, vs, e5, m1, z1, n1⟩ := bx.list r2.sub
        cases e5
        have hv := n1.vints h7
        subst hv
        exact ⟨p0, ns, k, rfl, by rw [bY.int], SqL.of m1, q _ [] B2 H2 O2 (g1.trans g2) r2 (wr_sh (.int _))⟩
      | _ => cases h5
    | _ => cases h5
  · rw [if_neg hl] at e; cases e
def eCount (f g : Env → Option (Opd × Env)) : Env → Option (W × Env) := fun env => bd (f env) fun a e1 => bo (a.look e1) fun d1 => if isList d1 = true then bd (g e1) fun b e2 => bo (a.look e2) fun x => bo (b.look e2) fun y => bo (wCount x y) fun w => some (w, e2) else none
theorem xw_count {f g : Env → Option (Opd × Env)} (ha : XO X a f) (hb : XO X b g) (hbase : attributeBase a "count" X.env (eval a X.env) = eval a X.env := by rfl)
    (hfew : ((backTo pos (starEach [b] X.env)).all (fun x => !x.1) && (backToKw pos (keywordEach [] X.env)).all (fun x => x.1.isSome) && decide ([b].length + ([] : List Keyword).length + (if ([] : List Keyword).isEmpty then 0 else 1) < 30)) = true := by rfl)
    (hline : (apos.endLine == pos.line) = true := by rfl) (hs : starEach [b] X.env = (false, eval b X.env) :: starEach [] X.env := by rfl) (hpl : (backTo pos (starEach [] X.env)).any (·.1) = false := by rfl) : XW X (.Call (.Attribute a "count" apos) [b] [] pos) (eCount f g) := by
  obtain ⟨t, p1, g1⟩ := ha.ex
  obtain ⟨u, p2, g2⟩ := hb.ex
  exact ⟨_, pe_bm PySem.F.plainAttrs_list PySem.F.slot_list_count PySem.F.type_list_count mt_lcount p1 (pa_cons p2 pa_nil hs) hbase hfew hline hs hpl, gw_count g1 g2⟩
/-! ### more of the pure -/
theorem xb_fnD {F : List D → Option W} {k : Nat} {fd : FuncData} {ps : List Str} {dvs : List V} {dls : List Value} {dds : List D} {f : Env → Option (List D)} (h : Knows X k x fd ps (spF F)) (hb : Binds X.K fd ps dls) (hd : Vals dvs dls) (hdd : ∀ H, DVs H dvs dds) (ha : XBA X (e :: es) f) (hg : Gl X x := by rfl) (nd : (x == ("__debug__" : Str)) = false := by decide)
    (he : starEach (e :: es) X.env = (false, eval e X.env) :: starEach es X.env := by rfl) (hpl : (backTo pos (starEach es X.env)).any (·.1) = false := by rfl) : XB X (.Call (.Name x p) (e :: es) [] pos) (bCB (fun ds => F (ds ++ dds)) f) := by
  obtain ⟨fa, h1, h2, h3⟩ := h.ex
  obtain ⟨t, p1, g1⟩ := ha.ex
  refine ⟨_, pe_callG h3 h.room h.gu hg h1 h2 hb hd pass0 p1 nd he hpl, fun B H O σ env rp d e Q q => ?_⟩
  obtain ⟨x, h1, e⟩ := bo_inv e
  obtain ⟨w, h3, e⟩ := bo_inv e
  refine g1 B H O σ env rp x h1 _ fun v H1 x1 k1 => ?_
  exact ⟨H1, x ++ dds, w, Ex.refl _, k1.append (hdd H1), h3, fun v A B2 H2 gp nr => q v H2 (x1.trans gp.keep) (nr.sr.data (B' := H2) gp.sub (fun _ _ => rfl) e)⟩
theorem gb_isi {K : PySem.W.Frag} {T : String} {pp : D → Bool} {ta : TE} {f : Env → Option D} (hp : TyP T pp) (ha : GB ta f) : GB (tCB (rIsi K) (tCons ta (tCons (tC (.ty T)) tNil))) (bU (wTy pp) f) := fun B H O σ env rp d e Q q => by
  obtain ⟨x, h1, e⟩ := bo_inv e
  obtain ⟨w, h3, e⟩ := bo_inv e
  obtain ⟨ns, h3⟩ := wTy_inv h3
  cases h3; cases e
  exact ha B H O σ env rp x h1 _ fun v H1 x1 k1 => ⟨v, .ty T, .type (tyN x), .type T, pp x, rfl, .ty T, k1.ty ns, kit_ty (hp x), q _ H1 x1 (.bl _)⟩
theorem gb_isiT {K : PySem.W.Frag} {Ts : List String} {pps : List (D → Bool)} {ta : TE} {f : Env → Option D} (hp : TysP Ts pps) (hz : Ts.length < 1000) (ha : GB ta f) : GB (tCB (rIsiT K) (tCons ta (tCons (tTup (tTys Ts)) tNil))) (bU (wTy fun d => pps.any fun p => p d) f) := fun B H O σ env rp d e Q q => by
  obtain ⟨x, h1, e⟩ := bo_inv e
  obtain ⟨w, h3, e⟩ := bo_inv e
  obtain ⟨ns, h3⟩ := wTy_inv h3
  cases h3; cases e
  refine ha B H O σ env rp x h1 _ fun v H1 x1 k1 => tTys_run Ts _ ⟨by rw [List.length_map]; exact sz1000 hz, fun p hn => ?_⟩
  have x2 : Ex H1 (upd H1 p (.tup (Ts.map V.ty))) := Ex.new hn
  exact ⟨v, p, Ts.map V.ty, .type (tyN x), Ts.map Value.type, _, rfl, upd_same, TysP.cls Ts, (k1.mono x2).ty ns, hp.any, q _ _ (x1.trans x2) (.bl _)⟩
theorem xb_isi {T : String} {p2 : Pos} {pp : D → Bool} {f : Env → Option D} (hp : TyP T pp) (hm : X.mg "isinstance" = none) (hm2 : X.mg y = none) (hv2 : bootBuiltins y = some (.type T)) (ha : XB X a f) (hg : Gl X "isinstance" := by rfl) (hg2 : Gl X y := by rfl)
    (hn2 : y ≠ "__name__" := by decide) (hdb2 : (y == ("__debug__" : Str)) = false := by decide) (s1 : starEach [a, .Name y p2] X.env = (false, eval a X.env) :: starEach [.Name y p2] X.env := by rfl) (s2 : starEach [.Name y p2] X.env = (false, eval (.Name y p2) X.env) :: starEach [] X.env := by rfl)
    (hpl : (backTo pos (starEach [.Name y p2] X.env)).any (·.1) = false := by rfl) : XB X (.Call (.Name "isinstance" p) [a, .Name y p2] [] pos) (bU (wTy pp) f) := by
  obtain ⟨t, p1, g1⟩ := ha.ex
  exact ⟨_, pe_callB call_isi hg hm (by decide +kernel) (pa_cons p1 (pa_cons (pe_bltn (v := .ty T) hg2 hm2 hv2 rfl hn2 hdb2) pa_nil s2) s1) (by decide) (by decide) s1 hpl, gb_isi hp g1⟩
theorem xb_isiT {p2 : Pos} {k : Nat} {Ts : List String} {pps : List (D → Bool)} {f : Env → Option D} (hp : TysP Ts pps) (hm : X.mg "isinstance" = none) (hts : XTys X es Ts) (ha : XB X a f) (hz : Ts.length < 1000 := by decide) (hg : Gl X "isinstance" := by rfl)
    (s1 : starEach [a, .Tuple es k p2] X.env = (false, eval a X.env) :: starEach [.Tuple es k p2] X.env := by rfl) (s2 : starEach [.Tuple es k p2] X.env = (false, eval (.Tuple es k p2) X.env) :: starEach [] X.env := by rfl)
    (hpl : (backTo pos (starEach [.Tuple es k p2] X.env)).any (·.1) = false := by rfl) : XB X (.Call (.Name "isinstance" p) [a, .Tuple es k p2] [] pos) (bU (wTy fun d => pps.any fun p => p d) f) := by
  obtain ⟨t, p1, g1⟩ := ha.ex
  exact ⟨_, pe_callB call_isiT hg hm (by decide +kernel) (pa_cons p1 (pa_cons (pe_tup hts.pa) pa_nil s2) s1) (by decide) (by decide) s1 hpl, gb_isiT hp hz g1⟩
theorem xb_bty {T : String} {q : List D → Option W} {fb : Env → Option (List D)} (h : CallX X (.type T) q) (hm : X.mg x = none) (hv : bootBuiltins x = some (.type T)) (ha : XBA X (e :: es) fb) (hg : Gl X x := by rfl) (hn : x ≠ "__name__" := by decide) (hdb : (x == ("__debug__" : Str)) = false := by decide)
    (he : starEach (e :: es) X.env = (false, eval e X.env) :: starEach es X.env := by rfl) (hpl : (backTo pos (starEach es X.env)).any (·.1) = false := by rfl) : XB X (.Call (.Name x p) (e :: es) [] pos) (bCB q fb) := by
  obtain ⟨r, h1, h2⟩ := h.ex
  obtain ⟨t, p1, g1⟩ := ha.ex
  exact ⟨_, pe_callTy h1 hg hm hv p1 hn hdb he hpl, gb_cb h2 g1⟩
theorem xb_bmo {id : String} {q : List D → Option W} {fb : Env → Option (List D)} (h : CallX X (.builtin id) q) (hm : X.mg x = some (.builtin id)) (ha : XBA X (e :: es) fb) (hg : Gl X x := by rfl) (hdb : (x == ("__debug__" : Str)) = false := by decide)
    (he : starEach (e :: es) X.env = (false, eval e X.env) :: starEach es X.env := by rfl) (hpl : (backTo pos (starEach es X.env)).any (·.1) = false := by rfl) : XB X (.Call (.Name x p) (e :: es) [] pos) (bCB q fb) := by
  obtain ⟨r, h1, h2⟩ := h.ex
  obtain ⟨t, p1, g1⟩ := ha.ex
  exact ⟨_, pe_callBfun h1 hg hm p1 hdb he hpl, gb_cb h2 g1⟩
theorem xb_un {uop : UnaryOp} {g : D → Option W} {f : Env → Option D} (h : UnX X (unaryOp uop) g) (ha : XB X a f) : XB X (.UnaryOp uop a pos) (bU g f) := by
  obtain ⟨r, h1, h2⟩ := h.ex
  obtain ⟨t, p1, g1⟩ := ha.ex
  exact ⟨_, pe_un h1 p1, gb_un h2 g1⟩
/-- a slice, pure -/
def bOI (f : Env → Option D) : Env → Option (Option Int) := fun env => bo (f env) fun d => bo (intOf d) fun i => some (some i)
def bON : Env → Option (Option Int) := fun _ => some none
def GBP (t : TO) (f : Env → Option (Option Int)) : Prop := ∀ B H O σ env, Rep B H σ env O → ∀ o, f env = some o → ∀ Q : Option Int → Hp → Prop, (∀ H', Ex H H' → Q o H') → t σ H Q
structure XBP (X : Cx) (e : Option Expr) (f : Env → Option (Option Int)) : Prop where ex : ∃ t, PO X e t ∧ GBP t f
theorem xbp_n : XBP X none bON := ⟨_, po_none, fun B H O σ env r o e Q q => by cases e; exact q H (Ex.refl _)⟩
theorem xbp_s {f : Env → Option D} (h : XB X e f) : XBP X (some e) (bOI f) := by
  obtain ⟨t, p, g⟩ := h.ex
  refine ⟨_, po_some p, fun B H O σ env r o e Q q => ?_⟩
  obtain ⟨d, h1, e⟩ := bo_inv e
  obtain ⟨i, h2, e⟩ := bo_inv e
  cases e
  refine g B H O σ env r d h1 _ fun v H1 x1 k1 => ?_
  cases d <;> first | (cases h2; done) | skip
  cases h2
  cases k1
  exact ⟨_, rfl, q H1 x1⟩
def bSl (f : Env → Option D) (l h : Env → Option (Option Int)) : Env → Option D := fun env => bo (f env) fun d => bo (l env) fun a => bo (h env) fun b => bo (wSl d a b) fun w => wD w
theorem xb_sl {lo hi : Option Expr} {f : Env → Option D} {l h : Env → Option (Option Int)} {p2 : Pos} (ha : XB X a f) (hl : XBP X lo l) (hh : XBP X hi h) : XB X (.Subscript a (.Slice lo hi none p2) pos) (bSl f l h) := by
  obtain ⟨t, p1, g1⟩ := ha.ex
  obtain ⟨u, q2, g2⟩ := hl.ex
  obtain ⟨v, p3, g3⟩ := hh.ex
  refine ⟨_, pe_slice sl_list p1 q2 p3, fun B H O σ env r d e Q q => ?_⟩
  obtain ⟨x, h1, e⟩ := bo_inv e
  obtain ⟨i, h2, e⟩ := bo_inv e
  obtain ⟨j, h3, e⟩ := bo_inv e
  obtain ⟨w, h4, e⟩ := bo_inv e
  refine g1 B H O σ env r x h1 _ fun v H1 x1 k1 => g2 B H1 O σ env (r.ext x1) i h2 _ fun H2 x2 => g3 B H2 O σ env ((r.ext x1).ext x2) j h3 _ fun H3 x3 => ?_
  exact (sl_listW H3 H3 v x i j w (Ex.refl _) (bv_full ((k1.mono x2).mono x3)) h4).full e fun z H4 x4 k4 => q z H4 (((x1.trans x2).trans x3).trans x4) k4
theorem xb_if {hh : Env → Option Bool} {f g : Env → Option D} {tc : TT} (pc : PT X c tc) (gc : GBT tc hh) (ha : XB X a f) (hb : XB X b g) : XB X (.IfExp c a b pos) (fun env => bo (hh env) fun k => if k = true then f env else g env) := by
  obtain ⟨t, p1, g1⟩ := ha.ex
  obtain ⟨u, p2, g2⟩ := hb.ex
  refine ⟨_, pe_ifExp pc p1 p2, fun B H O σ env r d e Q q => ?_⟩
  obtain ⟨k, h1, e⟩ := bo_inv e
  refine gc B H O σ env r k h1 _ fun H1 x1 => ?_
  cases k with
  | true => exact g1 B H1 O σ env (r.ext x1) d e Q fun v H2 x2 k2 => q v H2 (x1.trans x2) k2
  | false => exact g2 B H1 O σ env (r.ext x1) d e Q fun v H2 x2 k2 => q v H2 (x1.trans x2) k2
end
/-- a def that is called -/
structure Cal (P : Program) (w : World) (K : PySem.W.Frag) (mg : Str → Option Value) (base : Heap) (k : Nat) (x : Str) (fd : FuncData) (ps : List Str) (sp : Sp) : Prop where
  ex : ∃ f, mg x = some (.ref f) ∧ PySem.W.keepIn K (.ref f) = true ∧ FnG P w K mg base CX0 k f fd ps sp
theorem Cal.up {P : Program} {w : World} {K : PySem.W.Frag} {mg : Str → Option Value} {base : Heap} {j k : Nat} {x : Str} {fd : FuncData} {ps : List Str} {sp : Sp} (c : Cal P w K mg base j x fd ps sp) (h : j ≤ k) : Cal P w K mg base k x fd ps sp :=
  let ⟨f, h1, h2, h3⟩ := c.ex
  ⟨f, h1, h2, h3.up h⟩
end Z

set_option Elab.async false
set_option linter.all false
set_option maxRecDepth 100000
set_option maxHeartbeats 4000000
/-! Z10: lists of lists that a comprehension makes; a loop over lists that the body changes; the law's own call. -/
namespace Z
open PySem PySem.Spec PyProof.Rows L2
open Evl (Ex)

/-- what is beside the owned stays so -/
theorem Gr.stay {B H B' H' : Hp} {O O' : List Addr} (g : Gr B H O B' H' O') {a : Addr} {o : HO} (n : a ∉ O) (b : B a = none) (h : H a = some o) : a ∉ O' ∧ B' a = none ∧ H' a = some o := by
  refine ⟨fun m => ?_, ?_, g.keep _ _ h n⟩
  · rcases g.own a m with z | z
    · exact n z
    · rw [h] at z; cases z
  · cases q : B' a with
    | none => rfl
    | some o' =>
      rcases g.new a (by rw [q]; simp) with z | z | z
      · exact absurd b z
      · exact absurd z n
      · rw [h] at z; cases z
theorem SRs.app {B H : Hp} {v : V} {w : W} {A2 : List Addr} (k : SR B H v w A2) : ∀ {vs : List V} {ws : List W} {A : List Addr}, SRs B H vs ws A → SRs B H (vs ++ [v]) (ws ++ [w]) (A ++ A2)
  | _, _, _, .nil => by
    have := SRs.cons k (SRs.nil (B := B) (H := H))
    rw [List.append_nil] at this
    exact this
  | _, _, _, .cons h hs => by
    have := SRs.cons h (SRs.app k hs)
    rw [← List.append_assoc] at this
    exact this
/-- addresses beside all that a reading owns -/
structure Bes (B H B0 H0 : Hp) (O0 O A : List Addr) : Prop where
  nd : A.Nodup
  out : ∀ a ∈ A, a ∉ O
  fr : ∀ a ∈ A, B a = none
  old : ∀ a ∈ A, a ∈ O0 ∨ H0 a = none
theorem Bes.step {B H B' H' B0 H0 : Hp} {O0 O O' A : List Addr} (k : Bes B H B0 H0 O0 O A) (th : ∀ a ∈ A, ∃ o, H a = some o) (g : Gr B H O B' H' O') : Bes B' H' B0 H0 O0 O' A :=
  ⟨k.nd, fun a m => let ⟨_, h⟩ := th a m; (g.stay (k.out a m) (k.fr a m) h).1, fun a m => let ⟨_, h⟩ := th a m; (g.stay (k.out a m) (k.fr a m) h).2.1, k.old⟩
theorem Bes.less {B H B0 H0 : Hp} {O0 O O' A : List Addr} (k : Bes B H B0 H0 O0 O A) (s : ∀ a ∈ O', a ∈ O) : Bes B H B0 H0 O0 O' A := ⟨k.nd, fun a m z => k.out a m (s a z), k.fr, k.old⟩
theorem Bes.keeps {B H B' H' B0 H0 : Hp} {O0 O O' A : List Addr} (k : Bes B H B0 H0 O0 O A) (g : Gr B H O B' H' O') : ∀ a ∈ A, ∀ o, H a = some o → H' a = some o := fun a m o h => (g.stay (k.out a m) (k.fr a m) h).2.2

def cLoopN (tg : D → Env → Option Env) (fe : Env → Option (W × Env)) (vs : List Nat) : List D → List W → Env → Option (List W × Env)
  | [], acc, env => some (acc, env)
  | d :: ds, acc, env => bo (tg d (wp vs env)) fun e1 => bd (fe e1) fun y e3 => cLoopN tg fe vs ds (acc ++ [y]) (wp vs e3)
def eLcN (f : Env → Option (List D × Env)) (tg : D → Env → Option Env) (fe : Env → Option (W × Env)) (vs : List Nat) : Env → Option (W × Env) := fun env => bd (f env) fun ds e => bd (cLoopN tg fe vs ds [] e) fun ws e' => some (.nest ws, e')
theorem gw_lcN {wi : TI} {g : TG} {tt : TT} {te : TE} {f : Env → Option (List D × Env)} {tg : D → Env → Option Env} {js : List Nat} {fe : Env → Option (W × Env)} {vs : List Nat} (hi : GI wi f) (hg : GG g tg js) (ht : GT tt tYs) (he : GW te fe) (hj : ∀ j ∈ js, j ∈ vs) :
    GW (tLc wi g tt te vs) (eLcN f tg fe vs) := fun B H O σ env r w env' e Q q => by
  obtain ⟨ds, e1, h1, e⟩ := bd_inv e
  obtain ⟨ys, e2, h2, e⟩ := bd_inv e
  cases e
  refine hi B H O σ env r ds e1 h1 _ fun J B1 H1 O1 g1 r1 w1 z1 L hL => ?_
  have bL0 : B1 L = none := Evl.fresh_back r1.sub hL
  have L0 : L ∈ O ∨ H L = none := by
    by_cases m : L ∈ O
    · exact .inl m
    · cases hq : H L with
      | none => exact .inr rfl
      | some o => rw [g1.keep L o hq m] at hL; cases hL
  have nL0 : L ∉ O1 := fun m => by obtain ⟨o, z⟩ := r1.there m; rw [hL] at z; cases z
  refine ⟨fun i m Hx => ∃ Bx Ox ex acc xs A, Gr B H O Bx Hx Ox ∧ Ex B1 Bx ∧ Rep Bx Hx σ ex Ox ∧ i + m = ds.length ∧ Bes Bx Hx B H O Ox (L :: A) ∧ Hx L = some (.lst xs) ∧ xs.length ≤ i ∧ SRs Bx Hx xs acc A ∧ cLoopN tg fe vs (ds.drop i) acc ex = some (ys, env'),
    ⟨ds.length, B1, O1, e1, [], [], [], g1.trans (Gp.new0 r1.sub hL).gr, Ex.refl _, r1.grow (Gp.new0 r1.sub hL), by omega, ⟨by simp, fun a m => by rw [List.mem_singleton.mp m]; exact nL0, fun a m => by rw [List.mem_singleton.mp m]; exact bL0, fun a m => by rw [List.mem_singleton.mp m]; exact L0⟩, upd_same, Nat.le_refl _, .nil, h2⟩, ?_⟩
  rintro i m Hx ⟨Bx, Ox, ex, acc, xs, A, g2, x2, r2, hm, bes, hxs, hlen, kacc, e2⟩
  obtain ⟨go, stop⟩ := w1 i Bx Hx x2 r2.sub
  by_cases hi : i < ds.length
  · have hd : ds[i]? = some ds[i] := List.getElem?_eq_getElem hi
    obtain ⟨j1, j2⟩ := go _ hd
    rw [List.drop_eq_getElem_cons hi] at e2
    obtain ⟨e3, f1, f2⟩ := bo_inv e2
    obtain ⟨y, e5, f5, f6⟩ := bd_inv f2
    refine .inr ⟨j1, fun Hy => ∃ By Oy ey acc xs A, Gr B H O By Hy Oy ∧ Ex B1 By ∧ Rep By Hy σ ey Oy ∧ Bes By Hy B H O Oy (L :: A) ∧ Hy L = some (.lst xs) ∧ xs.length ≤ i + 1 ∧ SRs By Hy xs acc A ∧ cLoopN tg fe vs (ds.drop (i + 1)) acc ey = some (ys, env'), ?_, fun x H3 hy => ?_⟩
    · rintro Hy ⟨By, Oy, ey, acc', xs', A', k1, k2, k3, k4, k5, k6, k7, k8⟩
      exact ⟨m - 1, by omega, By, Oy, ey, acc', xs', A', k1, k2, k3, by omega, k4, k5, k6, k7, k8⟩
    · obtain ⟨B3, p3, v3⟩ := j2 x H3 hy
      have th : ∀ a ∈ L :: A, ∃ o, Hx a = some o := fun a m => by
        rcases List.mem_cons.mp m with e | m
        · rw [e]; exact ⟨_, hxs⟩
        · exact kacc.there a m
      have bes3 := bes.step th p3.gr
      have kacc3 := kacc.mono p3.base fun a m => bes.keeps p3.gr a (List.mem_cons_of_mem _ m)
      have th3 : ∀ a ∈ L :: A, ∃ o, H3 a = some o := fun a m => let ⟨o, z⟩ := th a m; ⟨o, p3.keep a o z⟩
      have r3 := r2.grow p3
      obtain ⟨O3, r3w, s3⟩ := r3.wipe vs
      refine hg B3 H3 O3 (L2.wipe σ vs) (wp vs ex) x _ r3w v3 e3 f1 _ fun σ4 O4 r4 s4 l4 k4 => ?_
      have hl4 : σ4.length = σ.length := by rw [l4, wipe_length]
      have same4 : ∀ i, i ∉ vs → σ4[i]? = σ[i]? := fun i hi => by
        rw [k4 i fun z => hi (hj i z), wipe_ne hi]
      refine ⟨wipe_back hl4 fun i hi => by rw [same4 i hi, wipe_ne hi], ?_⟩
      have s34 : ∀ a ∈ O4, a ∈ Ox := fun a m => s3 a (s4 a m)
      have g4 : Gr B H O B3 H3 O4 := (g2.trans p3.gr).less s34
      have bes4 := bes3.less s34
      refine ht B3 H3 O4 σ4 e3 r4 true e3 rfl _ fun B5 H5 O5 g5 r5 => ?_
      have bes5 := bes4.step th3 g5
      have kacc5 := kacc3.mono g5.base fun a m => bes4.keeps g5 a (List.mem_cons_of_mem _ m)
      have th5 : ∀ a ∈ L :: A, ∃ o, H5 a = some o := fun a m => let ⟨o, z⟩ := th3 a m; ⟨o, bes4.keeps g5 a m o z⟩
      have hx5 : H5 L = some (.lst xs) := bes4.keeps g5 L List.mem_cons_self _ (p3.keep L _ hxs)
      rw [if_pos rfl]
      refine he B5 H5 O5 σ4 e3 r5 y e5 f5 _ fun v A6 B6 H6 O6 g6 r6 k6 => ?_
      have bes6 := bes5.step th5 g6
      have kacc6 := kacc5.mono g6.base fun a m => bes5.keeps g6 a (List.mem_cons_of_mem _ m)
      have hx6 : H6 L = some (.lst xs) := bes5.keeps g6 L List.mem_cons_self _ hx5
      refine ⟨xs, hx6, by omega, ?_⟩
      obtain ⟨O7, r7, s7⟩ := r6.unwipe (vs := vs) hl4 same4
      have nL6 : L ∉ A6 ++ O6 := bes6.out L List.mem_cons_self
      have nL7 : L ∉ O7 := fun m => nL6 (List.mem_append_right _ (s7 L m))
      have nLA : L ∉ A := (List.nodup_cons.mp bes6.nd).1
      have bL6 : B6 L = none := bes6.fr L List.mem_cons_self
      have keepU : ∀ {as : List Addr}, L ∉ as → ∀ a ∈ as, ∀ o, H6 a = some o → upd H6 L (.lst (xs ++ [v])) a = some o := fun {as} n a m o h => by
        rw [upd_ne (fun z => n (by rw [← z]; exact m))]; exact h
      have r8 : Rep B6 (upd H6 L (.lst (xs ++ [v]))) σ (wp vs e5) O7 := ⟨r7.rl.mono (Ex.refl _) (keepU nL7), r7.nd, r7.fr, fun a o h => by
        rw [upd_ne (fun z => by rw [z, bL6] at h; cases h)]
        exact r7.sub a o h⟩
      have g7 := (g4.trans g5).trans g6
      refine ⟨B6, O7, _, acc ++ [y], xs ++ [v], A ++ A6, ⟨g7.base, fun a o h n => ?_, g7.new, fun a m => g7.own a (List.mem_append_right _ (s7 a m))⟩, x2.trans (p3.base.trans (g5.base.trans g6.base)), r8, ⟨?_, ?_, ?_, ?_⟩, upd_same, by rw [List.length_append]; simp; omega,
        SRs.app (k6.sr.mono (Ex.refl _) (keepU fun m => nL6 (List.mem_append_left _ m))) (kacc6.mono (Ex.refl _) (keepU nLA)), f6⟩
      · by_cases e : a = L
        · subst e
          rcases L0 with z | z
          · exact absurd z n
          · rw [z] at h; cases h
        · rw [upd_ne e]; exact g7.keep a o h n
      · refine List.nodup_cons.mpr ⟨fun m => ?_, List.nodup_append.mpr ⟨(List.nodup_cons.mp bes6.nd).2, k6.nd, fun a m b m' z => ?_⟩⟩
        · rcases List.mem_append.mp m with m | m
          · exact nLA m
          · exact nL6 (List.mem_append_left _ m)
        · subst z
          exact bes6.out a (List.mem_cons_of_mem _ m) (List.mem_append_left _ m')
      · intro a m z
        rcases List.mem_cons.mp m with e | m
        · exact nL7 (by rw [← e]; exact z)
        · rcases List.mem_append.mp m with m | m
          · exact bes6.out a (List.mem_cons_of_mem _ m) (List.mem_append_right _ (s7 a z))
          · exact k6.dj a m (s7 a z)
      · intro a m
        rcases List.mem_cons.mp m with e | m
        · rw [e]; exact bL6
        · rcases List.mem_append.mp m with m | m
          · exact bes6.fr a (List.mem_cons_of_mem _ m)
          · exact k6.fr a m
      · intro a m
        rcases List.mem_cons.mp m with e | m
        · rw [e]; exact L0
        · rcases List.mem_append.mp m with m | m
          · exact bes6.old a (List.mem_cons_of_mem _ m)
          · exact g7.own a (List.mem_append_left _ m)
  · have : ds.drop i = [] := List.drop_eq_nil_of_le (by omega)
    rw [this] at e2
    cases e2
    refine .inl ⟨stop (by omega), q _ (L :: A) Bx Hx Ox ⟨g2.base, g2.keep, g2.new, fun a m => ?_⟩ r2 ⟨.nest hxs (by omega) kacc, bes.nd, bes.out, bes.fr⟩⟩
    rcases List.mem_append.mp m with m | m
    · exact bes.old a m
    · exact g2.own a m

/-! ### a loop over lists that its body changes -/
def nxOn (fb : Env → Option (Fl × Env)) (vs : List Nat) (j : Nat) (e : Env) (w : W) : Prop := ∃ ds, w = .ow ds ∧ ∀ p, ∃ e', fb (put (wp vs e) j (.pu p ds)) = some (.nx, e') ∧ wp vs e' = wp vs e
open Classical in
noncomputable def sForP (fw : Env → Option (W × Env)) (j : Nat) (fb : Env → Option (Fl × Env)) (vs : List Nat) : Env → Option (Fl × Env) := fun env => bd (fw env) fun w e => match w with
  | .nest ws => if ∀ w ∈ ws, nxOn fb vs j e w then some (.nx, wp vs e) else none
  | _ => none
theorem gs_forP {K : PySem.W.Frag} {tl : TE} {tb : TS} {fw : Env → Option (W × Env)} {j : Nat} {fb : Env → Option (Fl × Env)} {vs : List Nat} (hw : GW tl fw) (hb : GS tb fb) : GS (tFor (iList K tl) (gName j) tb) (sForP fw j fb vs) := fun B H O σ env r fl env' e Dn q => by
  obtain ⟨w, e1, h1, e⟩ := bd_inv e
  cases w with
  | nest ws =>
    have e : (open Classical in if ∀ w ∈ ws, nxOn fb vs j e1 w then some (Fl.nx, wp vs e1) else none) = some (fl, env') := e
    by_cases hall : ∀ w ∈ ws, nxOn fb vs j e1 w
    · rw [if_pos hall] at e
      cases e
      refine hw B H O σ env r _ e1 h1 _ fun v A1 B1 H1 O1 g1 r1 k1 => ?_
      obtain ⟨sr, nd, dj, fr⟩ := k1
      cases sr with
      | @nest L xs ws A hL hz hs =>
        refine ⟨L, rfl, ⟨xs, SqL.of hL⟩, ?_⟩
        obtain ⟨O2, r2, s2⟩ := r1.wp vs
        have g2 : Gr B H O B1 H1 (O2) := g1.less fun a m => List.mem_append_right _ (s2 a m)
        have hlen := hs.length
        refine ⟨fun i m σx Hx => ∃ Bx Ox A, Gr B H O Bx Hx Ox ∧ Rep Bx Hx σx (wp vs e1) Ox ∧ i + m = ws.length ∧ Bes Bx Hx B H O Ox (L :: A) ∧ Hx L = some (.lst xs) ∧ SRs Bx Hx (xs.drop i) (ws.drop i) A,
          ⟨ws.length, B1, O2, A, g2, r2, by omega, ⟨nd, fun a m z => dj a m (s2 a z), fr, fun a m => g1.own a (List.mem_append_left _ m)⟩, hL, hs⟩, ?_⟩
        rintro i m σx Hx ⟨Bx, Ox, A, g3, r3, hm, bes, hx, ks⟩
        by_cases hi : i < ws.length
        · have hix : i < xs.length := by omega
          rw [List.drop_eq_getElem_cons hi, List.drop_eq_getElem_cons hix] at ks
          refine .inr ⟨⟨xs, _, SqL.of hx, List.getElem?_eq_getElem hix⟩, fun σy Hy => ∃ By Oy A, Gr B H O By Hy Oy ∧ Rep By Hy σy (wp vs e1) Oy ∧ Bes By Hy B H O Oy (L :: A) ∧ Hy L = some (.lst xs) ∧ SRs By Hy (xs.drop (i + 1)) (ws.drop (i + 1)) A, ?_, fun x H3 hy => ?_⟩
          · rintro σy Hy ⟨By, Oy, A', c1, c2, c3, c4, c5⟩
            exact ⟨m - 1, by omega, By, Oy, A', c1, c2, by omega, c3, c4, c5⟩
          · obtain ⟨rfl, hy⟩ := hy
            have hy := hy xs (SqL.of hx)
            rw [List.getElem?_eq_getElem hix] at hy
            cases hy
            have hwi : ws[i] ∈ ws := List.getElem_mem hi
            obtain ⟨ds, ew, hp⟩ := hall _ hwi
            generalize hwv : ws[i] = wi at ks ew
            subst ew
            generalize hxv : xs[i] = xv at ks
            cases ks with
            | @cons _ _ A1 _ _ A2 k ks =>
              cases k with
              | @ow p zs _ hp1 hp2 hp3 =>
                have th : ∀ a ∈ L :: ([p] ++ A2), ∃ o, H3 a = some o := fun a m => by
                  rcases List.mem_cons.mp m with e | m
                  · rw [e]; exact ⟨_, hx⟩
                  · rcases List.mem_append.mp m with m | m
                    · rw [List.mem_singleton.mp m]; exact ⟨_, hp1⟩
                    · exact ks.there a m
                obtain ⟨e', f1, f2⟩ := hp p
                have mp : p ∈ L :: ([p] ++ A2) := List.mem_cons_of_mem _ (List.mem_append_left _ (List.mem_singleton.mpr rfl))
                obtain ⟨O4, r4, s4⟩ := r3.store (v := .ref p) (w := .pu p ds) (A := [p]) ⟨.pu hp1 hp2 hp3, by simp, fun a m => by rw [List.mem_singleton.mp m]; exact bes.out p mp, fun a m => by rw [List.mem_singleton.mp m]; exact bes.fr p mp⟩ j
                have nd2 := List.nodup_cons.mp bes.nd
                have npA : p ∉ A2 := (List.nodup_cons.mp nd2.2).1
                have bes4 : Bes Bx H3 B H O O4 (L :: A2) := ⟨List.nodup_cons.mpr ⟨fun m => nd2.1 (List.mem_append_right _ m), (List.nodup_cons.mp nd2.2).2⟩, fun a m z => by
                    rcases List.mem_append.mp (s4 a z) with z | z
                    · rw [List.mem_singleton.mp z] at m
                      rcases List.mem_cons.mp m with m | m
                      · exact nd2.1 (by rw [← m]; exact List.mem_append_left _ (List.mem_singleton.mpr rfl))
                      · exact npA m
                    · rcases List.mem_cons.mp m with m | m
                      · exact bes.out a (by rw [m]; exact List.mem_cons_self) z
                      · exact bes.out a (List.mem_cons_of_mem _ (List.mem_append_right _ m)) z,
                  fun a m => by
                    rcases List.mem_cons.mp m with m | m
                    · exact bes.fr a (by rw [m]; exact List.mem_cons_self)
                    · exact bes.fr a (List.mem_cons_of_mem _ (List.mem_append_right _ m)),
                  fun a m => by
                    rcases List.mem_cons.mp m with m | m
                    · exact bes.old a (by rw [m]; exact List.mem_cons_self)
                    · exact bes.old a (List.mem_cons_of_mem _ (List.mem_append_right _ m))⟩
                have g4 : Gr B H O Bx H3 O4 := ⟨g3.base, g3.keep, g3.new, fun a m => by
                  rcases List.mem_append.mp (s4 a m) with z | z
                  · rw [List.mem_singleton.mp z]; exact bes.old p mp
                  · exact g3.own a z⟩
                have th4 : ∀ a ∈ L :: A2, ∃ o, H3 a = some o := fun a m => by
                  rcases List.mem_cons.mp m with e | m
                  · rw [e]; exact ⟨_, hx⟩
                  · exact ks.there a m
                refine hb Bx H3 O4 _ _ r4 .nx e' f1 _ fun σ5 B5 H5 O5 g5 r5 => ?_
                obtain ⟨O6, r6, s6⟩ := r5.wp vs
                rw [f2] at r6
                exact ⟨B5, O6, A2, (g4.trans g5).less s6, r6, (bes4.step th4 g5).less s6, bes4.keeps g5 L List.mem_cons_self _ hx, ks.mono g5.base fun a m => bes4.keeps g5 a (List.mem_cons_of_mem _ m)⟩
        · exact .inl ⟨⟨xs, SqL.of hx, by omega⟩, q σx Bx Hx Ox g3 r3⟩
    · rw [if_neg hall] at e; cases e
  | _ => cases e
section
variable {X : Cx} {pos p : Pos} {it elt : Expr} {x : Str} {sts : List Stmt} {scope : Scope}
theorem xs_forP {fw : Env → Option (W × Env)} {f : Env → Option (Fl × Env)} (vs : List Nat) (j : Nat) (hw : XW X it fw) (hN : X.N.Nodup) (hb : XSs X sts f) (hi : X.N[j]? = some x := by rfl) (hx : Loc X.env.scope x := by first | exact Or.inl rfl | exact Or.inr rfl) (hp : PassesOwn (model X.prog X.w) X.A X.env X.xe := by exact PassesOwn.never) (hc : X.calm = true := by rfl) (hs : ∀ x, foldedSetIterable it X.env x = pure x := by intro _; rfl) (hf : X.fn x = true ∨ X.env.scope.names.lookup x = some .local := by first | exact .inl rfl | exact .inr rfl) :
    XS X (.For (.Name x p) it sts [] pos) (sForP fw j f vs) := by
  obtain ⟨t1, p1, g1⟩ := hw.ex
  obtain ⟨t3, p3, g3⟩ := hb.ex
  exact ⟨_, ps_for hp hc (pi_list p1) (pg_name hN hi hx hf) p3 hs, gs_forP g1 g3⟩
def cW (f : Env → Option (W × Env)) : TE := fun σ H Q => ∃ B O env w env', Rep B H σ env O ∧ f env = some (w, env') ∧ ∀ v A B' H' O', Gr B H O B' H' (A ++ O') → Rep B' H' σ env' O' → WR B' H' O' v w A → Q v H'
theorem gw_can {f : Env → Option (W × Env)} : GW (cW f) f := fun B H O σ env r d env' e Q q => ⟨B, O, env, d, env', r, e, q⟩
theorem XW.can {e : Expr} {f : Env → Option (W × Env)} (h : XW X e f) : PE X e (cW f) := by
  obtain ⟨t, p, g⟩ := h.ex
  exact ⟨fun pins s σ H Q I ⟨B, O, env, d, env', r, h1, q⟩ => p.run pins s σ H Q I (g B H O σ env r d env' h1 Q q)⟩
theorem xw_lcN {tg : Expr} {fi : Env → Option (List D × Env)} {tt : D → Env → Option Env} {js : List Nat} {fe : Env → Option (W × Env)} (own : List (Str × Nat)) (hN : X.N.Nodup) (hi : XI X tg it fi) (ok : BlkOk X.N X.env.scope scope own) (hg : Blk X scope fun Y => XG Y tg tt js) (he : Blk X scope fun Y => XW Y elt fe) (hj : ∀ j ∈ js, j ∈ own.map (·.2) := by decide) (hc : X.calm = true := by rfl)
    (hs : ∀ x, foldedSetIterable it X.env x = pure x := by intro _; rfl) : XW X (.ListComp elt [⟨tg, it, [], 0⟩] scope pos) (eLcN fi tt fe (own.map (·.2))) := by
  obtain ⟨ti, p1, g1⟩ := hi.ex
  exact ⟨_, pe_lc hc hN p1 ok (fun s H C cl fp => (hg s H C cl fp).can) (fun _ _ _ _ _ => pts_nil) (fun s H C cl fp => (he s H C cl fp).can) hs, gw_lcN g1 gg_can gt_yes gw_can hj⟩
end

/-! ### the law's own call -/
section
variable {P : Program} {w : World} {K : PySem.W.Frag} {mg mb : Str → Option Value} {k : Nat} {fa a : Addr} {fd : FuncData} {x : Str} {Fl : List D → Option W} {s₁ : Shared} {vs : List Value} {ns : List Int}
/-- the heap that knows the script alone -/
def only (a : Addr) (o : Obj) (ns : List Int) : Hp := fun b => if b = a then some (.frz o (.lst (ns.map V.int))) else none
theorem only_at {a : Addr} {o : Obj} {ns : List Int} : only a o ns a = some (.frz o (.lst (ns.map V.int))) := if_pos rfl
theorem only_eq {a b : Addr} {o : Obj} {ns : List Int} {u : HO} (h : only a o ns b = some u) : b = a ∧ u = .frz o (.lst (ns.map V.int)) := by
  by_cases e : b = a
  · have h := (if_pos e).symm.trans h
    exact ⟨e, (Option.some.inj h).symm⟩
  · have h := (if_neg e).symm.trans h
    cases h
theorem only_no {a b : Addr} {o : Obj} {ns : List Int} (h : b ≠ a) : only a o ns b = none := if_neg h
theorem lawZ (kin : K.In s₁.heap) (glob : s₁.heap.Ns mainGlobals mg) (bi : s₁.heap.Ns builtinsNs mb) (boot : ∀ y : Str, y ≠ "__name__" → mb y = bootBuiltins y) (lim : s₁.heap.NoLimit) (gens : s₁.gens = #[])
    (at_ : s₁.heap.get? a = some { cls := .type "list", data := .seq vs.toArray }) (isI : IntsAre vs ns) (few : ns.length ≤ sizeLine) (room : Room k callerA) (noList : ∀ b o, K.lookup b = some o → o.cls ≠ .type "list")
    (F : ∀ base : Heap, K.In base → base.Ns mainGlobals mg → FnG P w K mg base CX0 k fa fd [x] (spF Fl)) (bind : ∀ (s : Shared) (u : Value), BindsTo s fd ⟨[u], []⟩ [(x, u)]) (true_ : Fl [scr ns] = some (.sh (.bool true))) :
    codeAny (model P w) callerA (.call (.ref fa) ⟨[.ref a], []⟩) (fun r s' => r = .ok (.ret (.bool true)) ∧ OldK s₁.heap s'.heap ∧ s'.os = s₁.os ∧ AllBare s'.gens) s₁ := by
  have rel := vals_ints isI
  have len := isI.length
  have kno : K.lookup a = none := by
    cases q : K.lookup a with
    | none => rfl
    | some o =>
      have z := kin a o q
      rw [at_] at z
      cases z
      exact absurd rfl (noList a _ q)
  generalize ho : ({ cls := .type "list", data := .seq vs.toArray } : Obj) = o at at_
  have nodict : ∀ {b : Addr} {u : Obj} {es : Array DictEntry} {n : Nat}, s₁.heap.get? b = some u → u.data = .dict es n → b ≠ a := fun {b u es n} g d e => by
    subst e
    rw [at_] at g
    cases g
    subst ho
    have z : Data.seq vs.toArray _ = Data.dict es n := d
    cases z
  have below : ∀ {b : Addr} {u : Obj}, s₁.heap.get? b = some u → b ≠ a → (hidT s₁.heap (only a o ns)).get? b = some u := fun g n => hidT_get g (only_no n)
  have nsB : ∀ {b : Addr} {m : Str → Option Value}, s₁.heap.Ns b m → (hidT s₁.heap (only a o ns)).Ns b m := fun {b m} ⟨u, es, n, g, d, z⟩ => ⟨u, es, n, below g (nodict g d), d, z⟩
  have kinB : K.In (hidT s₁.heap (only a o ns)) := fun b u g => below (kin b u g) fun e => by rw [e, kno] at g; cases g
  have m0 : Mod K mg (hidT s₁.heap (only a o ns)) := ⟨kinB, nsB glob, ⟨mb, nsB bi, boot⟩, let ⟨mc, z1, z2⟩ := lim; ⟨mc, nsB z1, z2⟩⟩
  have hok : HOk P w (only a o ns) s₁.heap := fun b u z => by
    obtain ⟨rfl, rfl⟩ := only_eq z
    exact ⟨at_, by rw [List.length_map]; exact few, vs, _, rel, by rw [at_, ← ho]⟩
  have e0 : Env0 P w K mg (hidT s₁.heap (only a o ns)) callerA [] s₁ (only a o ns) := ⟨rfl, m0, fun b u g => of_hidT g, Nat.le_of_eq (hidT_size _ _), trivial, fun b z => absurd (show b ∈ ([] : List Addr) from z) (by simp), hok, .of_eq gens⟩
  refine codeAny_mono ((F _ kinB (nsB glob)).run callerA [] s₁ (only a o ns) ⟨[.ref a], []⟩ [.ref a] [.ref a] (fun v _ => v = .bl true) (fun _ _ _ => False) room rfl e0 (bind s₁ (.ref a)) (.cons rfl .nil) ?_) fun r s' got => ?_
  · refine ⟨only a o ns, [scr ns], _, Ex.refl _, .cons (.scr (scrOf_scr ns) (.inr ⟨o, only_at⟩) few) .nil, true_, fun v A B' H' _ nr => ?_⟩
    cases nr.sr with
    | sh d => cases d; rfl
  · match r, got with
    | .error e, got => exact got.elim
    | .ok .next, got => exact got.elim
    | .ok .brk, got => exact got.elim
    | .ok .cont, got => exact got.elim
    | .ok (.ret u), got =>
      obtain ⟨v, H', os, bare, un, hok', rv, q⟩ := got
      have q : v = .bl true := q
      subst q
      cases rv
      refine ⟨rfl, OldK.of_keep fun b u g => ?_, os, bare⟩
      by_cases e : b = a
      · subst e
        obtain ⟨z, _⟩ := hok' b _ (un.frzs b o _ only_at)
        rw [at_] at g
        cases g
        exact z
      · exact un.keep b u g (only_no e) (fun z => absurd (show b ∈ ([] : List Addr) from z) (by simp)) (by simp)
end
/-- the goal that k_head leaves, from the law's promise -/
theorem walkZ {l : PySem.W.OpenLaw} {n k : Nat} {q : Program} {loose : List Str} {XP : (Str → Option Value) → Heap → Prop} {YP : World → Heap → Prop} {d : DefRec} {K : Params → PySem.W.Frag} {x : Str} {Fl : List D → Option W}
    (most : l.most = some n) (small : n ≤ sizeLine) (nodef : d.params.defaults = []) (room : Room k callerA) (kin : ∀ (w : World) (h : Heap), YP w h → (K w.params).In h) (noList : ∀ (w : World) b o, (K w.params).lookup b = some o → o.cls ≠ .type "list")
    (F : ∀ (w : World) (mg : Str → Option Value) (fa : Addr) (h : Heap), (K w.params).In h → h.Ns mainGlobals mg → mg d.name = some (.ref fa) → ∃ fd : FuncData, (∀ (s : Shared) (u : Value), BindsTo s fd ⟨[u], []⟩ [(x, u)]) ∧ ∀ base : Heap, (K w.params).In base → base.Ns mainGlobals mg → FnG l.prog w (K w.params) mg base CX0 k fa fd [x] (spF Fl))
    (true_ : ∀ ns : List Int, ns.length ≤ n → Fl [scr ns] = some (.sh (.bool true))) : PySem.W.WalkO q loose XP YP l.row.toRowW d [] (fun f vs => PySem.call f vs) := by
  refine Att.attach_call most nodef fun w s₀ s₁ mg mb fa o pm cd doc a vs ns G Y ho hd hcd found obj isI len gens => ?_
  obtain ⟨fd, bind, prom⟩ := F w mg fa _ (kin w _ Y) G.T.g found
  exact lawZ (kin w _ Y) G.T.g G.T.b G.T.builtins G.T.nolimit gens obj isI (Nat.le_trans len small) room (noList w) prom bind (true_ ns len)
theorem look_mem : ∀ {K : List (Addr × Obj)} {b : Addr} {o : Obj}, K.lookup b = some o → (b, o) ∈ K
  | [], _, _, e => by cases e
  | (c, u) :: r, b, o, e => by
    rw [List.lookup_cons] at e
    cases hb : b == c with
    | true =>
      rw [hb] at e
      cases e
      rw [eq_of_beq hb]
      exact List.mem_cons_self
    | false =>
      rw [hb] at e
      exact List.mem_cons_of_mem _ (look_mem e)
def noLst (K : PySem.W.Frag) : Bool := K.all fun p => match p.2.cls with
  | .type n => n != "list"
  | _ => true
theorem noList_of {K : PySem.W.Frag} (h : noLst K = true) : ∀ b o, K.lookup b = some o → o.cls ≠ .type "list" := fun b o e z => by
  have := List.all_eq_true.mp h _ (look_mem e)
  simp only [z] at this
  exact absurd this (by decide)
end Z

set_option Elab.async false
set_option linter.all false
set_option maxRecDepth 100000
set_option maxHeartbeats 4000000
/-! Z11: what the readings compute, as rules of rewriting. -/
namespace Z
open PySem PySem.Spec PyProof.Rows L2
@[simp] theorem fz_e (f : Env → Option (W × Env)) (env : Env) : fz f env = bd (f env) fun w e => bo (wD w) fun d => some (d, e) := nrfl rfl
@[simp] theorem sW_e (f : Env → Option (D × Env)) (env : Env) : sW f env = bd (f env) fun d e => some (.sh d, e) := nrfl rfl
@[simp] theorem vO_e (f : Env → Option (D × Env)) (env : Env) : vO f env = bd (f env) fun d e => some (.val d, e) := nrfl rfl
@[simp] theorem tD_e (f : Env → Option (D × Env)) (env : Env) : tD f env = bd (f env) fun d e => bo (gTr d) fun b => some (b, e) := nrfl rfl
@[simp] theorem eV_e (i : Nat) (env : Env) : eV i env = bo (wF (get env i)) fun _ => some (.slot i, env) := nrfl rfl
@[simp] theorem eD_e (i : Nat) (env : Env) : eD i env = bo (eD.wK (get env i)) fun d => some (d, put env i (.sh d)) := nrfl rfl
@[simp] theorem eM_e (i : Nat) (env : Env) : eM i env = (match get env i with
  | .sh d => some (.sh d, env)
  | .emp => none
  | .pu _ _ => none
  | w => some (w, put env i .emp)) := by rfl
@[simp] theorem eC_e (d : D) (env : Env) : eC d env = some (d, env) := nrfl rfl
@[simp] theorem eB_e (op : D → D → Option W) (f g : Env → Option (Opd × Env)) (env : Env) : eB op f g env = bd (f env) fun a e1 => bd (g e1) fun b e2 => bo (a.look e2) fun x => bo (b.look e2) fun y => bo (op x y) fun w => some (w, e2) := nrfl rfl
@[simp] theorem eU_e (op : D → Option W) (f : Env → Option (Opd × Env)) (env : Env) : eU op f env = bd (f env) fun a e1 => bo (a.look e1) fun x => bo (op x) fun w => some (w, e1) := nrfl rfl
@[simp] theorem aN_e  (env : Env) : aN  env = some ([], env) := nrfl rfl
@[simp] theorem aC_e (f : Env → Option (Opd × Env)) (g : Env → Option (List Opd × Env)) (env : Env) : aC f g env = bd (f env) fun o e1 => bd (g e1) fun os e2 => some (o :: os, e2) := nrfl rfl
@[simp] theorem adN_e  (env : Env) : adN  env = some ([], env) := nrfl rfl
@[simp] theorem adC_e (f : Env → Option (D × Env)) (g : Env → Option (List D × Env)) (env : Env) : adC f g env = bd (f env) fun o e1 => bd (g e1) fun os e2 => some (o :: os, e2) := nrfl rfl
@[simp] theorem eCB_e (op : List D → Option W) (f : Env → Option (List Opd × Env)) (env : Env) : eCB op f env = bd (f env) fun os e1 => bo (looks e1 os) fun ds => bo (op ds) fun w => some (w, e1) := nrfl rfl
@[simp] theorem eTup_e (f : Env → Option (List D × Env)) (env : Env) : eTup f env = bd (f env) fun ds e => if ds.length < 1000 then some (.sh (.tuple ds), e) else none := nrfl rfl
@[simp] theorem eLst_e (f : Env → Option (List D × Env)) (env : Env) : eLst f env = bd (f env) fun ds e => if ds.length < 1000 then some (.ow ds, e) else none := nrfl rfl
@[simp] theorem tAn_e (f g : Env → Option (Bool × Env)) (env : Env) : tAn f g env = bd (f env) fun b e => if b = true then g e else some (false, e) := nrfl rfl
@[simp] theorem tNo_e (f : Env → Option (Bool × Env)) (env : Env) : tNo f env = bd (f env) fun b e => some (!b, e) := nrfl rfl
@[simp] theorem eAn_e (f : Env → Option (D × Env)) (g : Env → Option (D × Env)) (env : Env) : eAn f g env = bd (f env) fun d e => bo (gTr d) fun b => if b = true then g e else some (.bool false, e) := nrfl rfl
@[simp] theorem eOr_e (f : Env → Option (D × Env)) (g : Env → Option (D × Env)) (env : Env) : eOr f g env = bd (f env) fun d e => bo (gTr d) fun b => if b = true then some (.bool true, e) else g e := nrfl rfl
@[simp] theorem eNo_e (f : Env → Option (D × Env)) (env : Env) : eNo f env = bd (f env) fun d e => bo (gTr d) fun b => some (.bool (!b), e) := nrfl rfl
@[simp] theorem eIf_e {α : Type} (c : Env → Option (Bool × Env)) (f g : Env → Option (α × Env)) (env : Env) : eIf c f g env = bd (c env) fun b e => if b = true then f e else g e := nrfl rfl
@[simp] theorem sSeq_e (f g : Env → Option (Fl × Env)) (env : Env) : sSeq f g env = sq (f env) g := nrfl rfl
@[simp] theorem sNx_e  (env : Env) : sNx  env = some (.nx, env) := nrfl rfl
@[simp] theorem sWp_e (is : List Nat) (f : Env → Option (Fl × Env)) (env : Env) : sWp is f env = f (wp is env) := nrfl rfl
@[simp] theorem sSet_e (i : Nat) (f : Env → Option (W × Env)) (env : Env) : sSet i f env = bd (f env) fun w e => some (.nx, put e i w) := nrfl rfl
@[simp] theorem sDrop_e (f : Env → Option (W × Env)) (env : Env) : sDrop f env = bd (f env) fun _ e => some (.nx, e) := nrfl rfl
@[simp] theorem sRet_e (f : Env → Option (W × Env)) (env : Env) : sRet f env = bd (f env) fun w e => some (.rt w, e) := nrfl rfl
@[simp] theorem sRetN_e  (env : Env) : sRetN  env = some (.rt (.sh .none), env) := nrfl rfl
@[simp] theorem sIf_e (c : Env → Option (Bool × Env)) (f g : Env → Option (Fl × Env)) (env : Env) : sIf c f g env = bd (c env) fun b e => if b = true then f e else g e := nrfl rfl
@[simp] theorem sPar_e (i j : Nat) (f : Env → Option (List D × Env)) (env : Env) : sPar i j f env = (bd (f env) fun ds e => match ds with
  | [x, y] => some (.nx, put (put e i (.sh x)) j (.sh y))
  | _ => none) := by rfl
@[simp] theorem iS_e (f : Env → Option (D × Env)) (env : Env) : iS f env = bd (f env) fun d e => bo (seqI d) fun ds => some (ds, e) := nrfl rfl
@[simp] theorem iR_e (f : Env → Option (List Opd × Env)) (env : Env) : iR f env = bd (f env) fun os e => bo (looks e os) fun ds => bo (rngI ds) fun xs => some (xs, e) := nrfl rfl
@[simp] theorem tYs_e  (env : Env) : tYs  env = some (true, env) := nrfl rfl
@[simp] theorem eLc_e (f : Env → Option (List D × Env)) (tg : D → Env → Option Env) (ft : Env → Option (Bool × Env)) (fe : Env → Option (D × Env)) (vs : List Nat) (env : Env) : eLc f tg ft fe vs env = bd (f env) fun ds e => bd (cLoop tg ft fe vs ds [] e) fun ys e' => some (.ow ys, e') := nrfl rfl
@[simp] theorem sFor_e (f : Env → Option (List D × Env)) (tg : D → Env → Option Env) (fb : Env → Option (Fl × Env)) (env : Env) : sFor f tg fb env = bd (f env) fun ds e => fLoop tg fb ds e := nrfl rfl
@[simp] theorem eF_e (F : List D → Option W) (f : Env → Option (List D × Env)) (env : Env) : eF F f env = bd (f env) fun ds e => bo (F ds) fun w => some (w, e) := nrfl rfl
@[simp] theorem eP_e (i : Nat) (F : List D → List D → Option (W × List D)) (f : Env → Option (List D × Env)) (env : Env) : eP i F f env = bo (wP (get env i)) fun _ => bd (f env) fun ds e => bo (wP (get e i)) fun q => bo (F q.2 ds) fun r => some (r.1, put e i (.pu q.1 r.2)) := nrfl rfl
@[simp] theorem bV_e (i : Nat) (env : Env) : bV i env = wD (get env i) := nrfl rfl
@[simp] theorem bC_e (d : D) (env : Env) : bC d env = some d := nrfl rfl
@[simp] theorem bsc_e (f : Env → Option D) (env : Env) : bsc f env = bo (f env) fun d => if isSc d = true then some (d, env) else none := nrfl rfl
@[simp] theorem bN_e  (env : Env) : bN  env = some [] := nrfl rfl
@[simp] theorem bCs_e (f : Env → Option D) (g : Env → Option (List D)) (env : Env) : bCs f g env = bo (f env) fun d => bo (g env) fun ds => some (d :: ds) := nrfl rfl
@[simp] theorem bB_e (op : D → D → Option W) (f g : Env → Option D) (env : Env) : bB op f g env = bo (f env) fun x => bo (g env) fun y => bo (op x y) fun w => wD w := nrfl rfl
@[simp] theorem bU_e (op : D → Option W) (f : Env → Option D) (env : Env) : bU op f env = bo (f env) fun x => bo (op x) fun w => wD w := nrfl rfl
@[simp] theorem bCB_e (op : List D → Option W) (f : Env → Option (List D)) (env : Env) : bCB op f env = bo (f env) fun ds => bo (op ds) fun w => wD w := nrfl rfl
@[simp] theorem bLst_e (f : Env → Option (List D)) (env : Env) : bLst f env = bo (f env) fun ds => if ds.length < 1000 then some (.list ds) else none := nrfl rfl
@[simp] theorem bTup_e (f : Env → Option (List D)) (env : Env) : bTup f env = bo (f env) fun ds => if ds.length < 1000 then some (.tuple ds) else none := nrfl rfl
@[simp] theorem bAn_e (f g : Env → Option D) (env : Env) : bAn f g env = bo (f env) fun d => bo (gTr d) fun b => if b = true then g env else some (.bool false) := nrfl rfl
@[simp] theorem bOr_e (f g : Env → Option D) (env : Env) : bOr f g env = bo (f env) fun d => bo (gTr d) fun b => if b = true then some (.bool true) else g env := nrfl rfl
@[simp] theorem bNo_e (f : Env → Option D) (env : Env) : bNo f env = bo (f env) fun d => bo (gTr d) fun b => some (.bool (!b)) := nrfl rfl
@[simp] theorem nN_e  (env : Env) : nN  env = some ([], env) := nrfl rfl
@[simp] theorem nC_e (f : Env → Option (W × Env)) (g : Env → Option (List W × Env)) (env : Env) : nC f g env = bd (f env) fun w e1 => bd (g e1) fun ws e2 => some (w :: ws, e2) := nrfl rfl
@[simp] theorem eNest_e (f : Env → Option (List W × Env)) (env : Env) : eNest f env = bd (f env) fun ws e => if ws.length < 1000 then some (.nest ws, e) else none := nrfl rfl
@[simp] theorem pN_e  (env : Env) : pN  env = some (none, env) := nrfl rfl
@[simp] theorem pS_e (f : Env → Option (D × Env)) (env : Env) : pS f env = bd (f env) fun d e => bo (intOf d) fun i => some (some i, e) := nrfl rfl
@[simp] theorem eSl_e (g : D → Option Int → Option Int → Option W) (f : Env → Option (Opd × Env)) (l h : Env → Option (Option Int × Env)) (env : Env) : eSl g f l h env = bd (f env) fun o e1 => bd (l e1) fun a e2 => bd (h e2) fun b e3 => bo (o.look e3) fun d => bo (g d a b) fun w => some (w, e3) := nrfl rfl
@[simp] theorem eApp_e (i : Nat) (f : Env → Option (D × Env)) (env : Env) : eApp i f env = bo (lstW (get env i)) fun _ => bd (f env) fun d e => bo (lstW (get e i)) fun ds => if smallLen ds.length = true then some (.sh .none, put e i (setW (get e i) (ds ++ [d]))) else none := nrfl rfl
@[simp] theorem eIns_e (i : Nat) (f g : Env → Option (D × Env)) (env : Env) : eIns i f g env = bo (lstW (get env i)) fun _ => bd (f env) fun c e1 => bd (g e1) fun d e => bo (intOf c) fun k => bo (lstW (get e i)) fun ds => if smallLen ds.length = true ∧ 0 ≤ k ∧ k < 1000000 then some (.sh .none, put e i (setW (get e i) (ds.take k.toNat ++ [d] ++ ds.drop k.toNat))) else none := nrfl rfl
@[simp] theorem ePop_e (i : Nat) (env : Env) : ePop i env = bo (lstW (get env i)) fun ds => bo (ds[ds.length - 1]?) fun d => some (.sh d, put env i (setW (get env i) ds.dropLast)) := nrfl rfl
@[simp] theorem sIx_e (i : Nat) (g : Env → Option (D × Env)) (f : Env → Option (D × Env)) (env : Env) : sIx i g f env = bd (f env) fun d e1 => bo (lstW (get e1 i)) fun _ => bd (g e1) fun c e => bo (intOf c) fun k => bo (lstW (get e i)) fun ds => bo (ixN ds.length k) fun j => some (.nx, put e i (setW (get e i) (ds.set j d))) := nrfl rfl
@[simp] theorem sAug_e (i : Nat) (g : Int → Int → Int) (f : Env → Option (D × Env)) (env : Env) : sAug i g f env = (match get env i with
  | .sh (.int a) => bd (f env) fun d e => bo (intOf d) fun b => some (.nx, put e i (.sh (.int (g a b))))
  | _ => none) := by rfl
@[simp] theorem eAppK_e (i : Nat) (k : Nat) (d : D) (env : Env) : eAppK i k d env = bo (nUp k (fun ds => if smallLen ds.length = true then some (ds ++ [d]) else none) (get env i)) fun w => some (.sh .none, put env i w) := nrfl rfl
@[simp] theorem eFd_e (F : List D → Option W) (dds : List D) (f : Env → Option (List D × Env)) (env : Env) : eFd F dds f env = bd (f env) fun ds e => bo (F (ds ++ dds)) fun w => some (w, e) := nrfl rfl
@[simp] theorem eFK_e (F : List D → Option W) (n : Nat) (js : List Nat) (f : Env → Option (List D × Env)) (env : Env) : eFK F n js f env = bd (f env) fun ds e => if ds.length = n then bo (F (pick js ds)) fun w => some (w, e) else none := nrfl rfl
@[simp] theorem bFK_e (F : List D → Option W) (n : Nat) (js : List Nat) (f : Env → Option (List D)) (env : Env) : bFK F n js f env = bo (f env) fun ds => if ds.length = n then bo (F (pick js ds)) fun w => wD w else none := nrfl rfl
@[simp] theorem iR1_e (f : Env → Option (List Opd × Env)) (env : Env) : iR1 f env = bd (f env) fun os e => if os.length = 1 then bo (looks e os) fun ds => bo (rngI ds) fun xs => some (xs, e) else none := nrfl rfl
@[simp] theorem iR2_e (f : Env → Option (List Opd × Env)) (env : Env) : iR2 f env = bd (f env) fun os e => if os.length = 2 then bo (looks e os) fun ds => bo (rngI ds) fun xs => some (xs, e) else none := nrfl rfl
@[simp] theorem sAsg_e (t : D → Env → Option Env) (f : Env → Option (D × Env)) (env : Env) : sAsg t f env = bd (f env) fun d e => bo (t d e) fun e' => some (.nx, e') := nrfl rfl
@[simp] theorem sParN_e (i j : Nat) (f : Env → Option (List W × Env)) (env : Env) : sParN i j f env = (bd (f env) fun ws e => match ws with
  | [v, w] => some (.nx, put (put e i v) j w)
  | _ => none) := by rfl
@[simp] theorem sUnp_e (is : List Nat) (f : Env → Option (List W × Env)) (env : Env) : sUnp is f env = bd (f env) fun ws e => if ws.length = is.length ∧ ws.length < 100 then some (.nx, puts is ws e) else none := nrfl rfl
@[simp] theorem sWq_e (is : List Nat) (f : Env → Option (Fl × Env)) (env : Env) : sWq is f env = (match f env with
  | some (.nx, e) => some (.nx, wp is e)
  | some (.ct, e) => some (.ct, wp is e)
  | some (.bk, e) => some (.bk, wp is e)
  | r => r) := by rfl
@[simp] theorem iZ_e (f g : Env → Option (D × Env)) (env : Env) : iZ f g env = (bd (f env) fun d e1 => bd (g e1) fun c e => match d, c with
  | .list xs, .list ys => some (zipD xs ys, e)
  | .tuple xs, .tuple ys => some (zipD xs ys, e)
  | _, _ => none) := by rfl
@[simp] theorem iE_e (f : Env → Option (D × Env)) (env : Env) : iE f env = (bd (f env) fun d e => match d with
  | .list ds => some (enD 0 ds, e)
  | _ => none) := by rfl
@[simp] theorem iRd_e (f : Env → Option (List Opd × Env)) (env : Env) : iRd f env = (bd (f env) fun os e => bo (looks e os) fun ds => match ds with
  | [.int i, .int j, .int k] => if inR i = true ∧ inR j = true ∧ k = -1 then some (rngDn i (i - j).toNat, e) else none
  | _ => none) := by rfl
@[simp] theorem eLR_e (f : Env → Option (D × Env)) (env : Env) : eLR f env = bd (f env) fun d e => bo (intOf d) fun n => if inR n = true then some (.ow (rng 0 n.toNat), e) else none := nrfl rfl
@[simp] theorem eCount_e (f g : Env → Option (Opd × Env)) (env : Env) : eCount f g env = bd (f env) fun a e1 => bo (a.look e1) fun d1 => if isList d1 = true then bd (g e1) fun b e2 => bo (a.look e2) fun x => bo (b.look e2) fun y => bo (wCount x y) fun w => some (w, e2) else none := nrfl rfl
@[simp] theorem bOI_e (f : Env → Option D) (env : Env) : bOI f env = bo (f env) fun d => bo (intOf d) fun i => some (some i) := nrfl rfl
@[simp] theorem bON_e  (env : Env) : bON  env = some none := nrfl rfl
@[simp] theorem bSl_e (f : Env → Option D) (l h : Env → Option (Option Int)) (env : Env) : bSl f l h env = bo (f env) fun d => bo (l env) fun a => bo (h env) fun b => bo (wSl d a b) fun w => wD w := nrfl rfl
@[simp] theorem eLcN_e (f : Env → Option (List D × Env)) (tg : D → Env → Option Env) (fe : Env → Option (W × Env)) (vs : List Nat) (env : Env) : eLcN f tg fe vs env = bd (f env) fun ds e => bd (cLoopN tg fe vs ds [] e) fun ws e' => some (.nest ws, e') := nrfl rfl
@[simp] theorem tgN_e (i : Nat) (d : D) (env : Env) : tgN i d env = some (put env i (.sh d)) := nrfl rfl
@[simp] theorem tgU_e (n : Nat) (u : List D → Env → Option Env) (d : D) (env : Env) : tgU n u d env = (match d with
  | .tuple ds => if ds.length = n then u ds env else none
  | _ => none) := by rfl
@[simp] theorem gTr_bool (b : Bool) : gTr (.bool b) = some b := nrfl rfl
@[simp] theorem tgZ_nil (env : Env) : tgZ [] env = some env := nrfl rfl
@[simp] theorem tgC_cons (t : D → Env → Option Env) (u : List D → Env → Option Env) (d : D) (ds : List D) (env : Env) : tgC t u (d :: ds) env = bo (t d env) fun e => u ds e := nrfl rfl
@[simp] theorem isSc_n : isSc .none = true := nrfl rfl
@[simp] theorem isSc_b (b : Bool) : isSc (.bool b) = true := nrfl rfl
@[simp] theorem isSc_i (i : Int) : isSc (.int i) = true := nrfl rfl
@[simp] theorem isSc_s (s : Str) : isSc (.str s) = true := nrfl rfl
@[simp] theorem seqI_list (ds : List D) : seqI (.list ds) = some ds := nrfl rfl
@[simp] theorem seqI_tuple (ds : List D) : seqI (.tuple ds) = some ds := nrfl rfl
@[simp] theorem wLen_list (ds : List D) : wLen (.list ds) = some (.sh (.int ds.length)) := nrfl rfl
@[simp] theorem wLen_tuple (ds : List D) : wLen (.tuple ds) = some (.sh (.int ds.length)) := nrfl rfl
@[simp] theorem isInt_i (i : Int) : isInt (.int i) = true := nrfl rfl
@[simp] theorem isInt_b (b : Bool) : isInt (.bool b) = true := nrfl rfl
@[simp] theorem isInt_n : isInt .none = false := nrfl rfl
@[simp] theorem isInt_s (s : Str) : isInt (.str s) = false := nrfl rfl
@[simp] theorem isInt_l (ds : List D) : isInt (.list ds) = false := nrfl rfl
@[simp] theorem isInt_t (ds : List D) : isInt (.tuple ds) = false := nrfl rfl
@[simp] theorem isBool_i (i : Int) : isBool (.int i) = false := nrfl rfl
@[simp] theorem isBool_b (b : Bool) : isBool (.bool b) = true := nrfl rfl
@[simp] theorem isBool_n : isBool .none = false := nrfl rfl
@[simp] theorem isBool_s (s : Str) : isBool (.str s) = false := nrfl rfl
@[simp] theorem isBool_l (ds : List D) : isBool (.list ds) = false := nrfl rfl
@[simp] theorem isBool_t (ds : List D) : isBool (.tuple ds) = false := nrfl rfl
@[simp] theorem isStr_i (i : Int) : isStr (.int i) = false := nrfl rfl
@[simp] theorem isStr_b (b : Bool) : isStr (.bool b) = false := nrfl rfl
@[simp] theorem isStr_n : isStr .none = false := nrfl rfl
@[simp] theorem isStr_s (s : Str) : isStr (.str s) = true := nrfl rfl
@[simp] theorem isStr_l (ds : List D) : isStr (.list ds) = false := nrfl rfl
@[simp] theorem isStr_t (ds : List D) : isStr (.tuple ds) = false := nrfl rfl
@[simp] theorem isList_i (i : Int) : isList (.int i) = false := nrfl rfl
@[simp] theorem isList_b (b : Bool) : isList (.bool b) = false := nrfl rfl
@[simp] theorem isList_n : isList .none = false := nrfl rfl
@[simp] theorem isList_s (s : Str) : isList (.str s) = false := nrfl rfl
@[simp] theorem isList_l (ds : List D) : isList (.list ds) = true := nrfl rfl
@[simp] theorem isList_t (ds : List D) : isList (.tuple ds) = false := nrfl rfl
@[simp] theorem isTuple_i (i : Int) : isTuple (.int i) = false := nrfl rfl
@[simp] theorem isTuple_b (b : Bool) : isTuple (.bool b) = false := nrfl rfl
@[simp] theorem isTuple_n : isTuple .none = false := nrfl rfl
@[simp] theorem isTuple_s (s : Str) : isTuple (.str s) = false := nrfl rfl
@[simp] theorem isTuple_l (ds : List D) : isTuple (.list ds) = false := nrfl rfl
@[simp] theorem isTuple_t (ds : List D) : isTuple (.tuple ds) = true := nrfl rfl
@[simp] theorem wB2_ii (g : Int → Int → Bool) (i j : Int) : wB2 g (.int i) (.int j) = some (.sh (.bool (g i j))) := nrfl rfl
@[simp] theorem wI2_ii (g : Int → Int → Int) (i j : Int) : wI2 g (.int i) (.int j) = some (.sh (.int (g i j))) := nrfl rfl
@[simp] theorem wLt_ii (i j : Int) : wLt (.int i) (.int j) = some (.sh (.bool (decide (i < j)))) := nrfl rfl
@[simp] theorem wLe_ii (i j : Int) : wLe (.int i) (.int j) = some (.sh (.bool (decide (i ≤ j)))) := nrfl rfl
@[simp] theorem wGt_ii (i j : Int) : wGt (.int i) (.int j) = some (.sh (.bool (decide (j < i)))) := nrfl rfl
@[simp] theorem wGe_ii (i j : Int) : wGe (.int i) (.int j) = some (.sh (.bool (decide (j ≤ i)))) := nrfl rfl
@[simp] theorem wAdd_ii (i j : Int) : wAdd (.int i) (.int j) = some (.sh (.int (i + j))) := nrfl rfl
@[simp] theorem wSub_ii (i j : Int) : wSub (.int i) (.int j) = some (.sh (.int (i - j))) := nrfl rfl
@[simp] theorem wNeg_i (i : Int) : wNeg (.int i) = some (.sh (.int (-i))) := nrfl rfl
@[simp] theorem wIsN_n (d : D) : wIsN d .none = some (.sh (.bool (isNon d))) := nrfl rfl
@[simp] theorem isNon_n : isNon .none = true := nrfl rfl
@[simp] theorem isNon_i (i : Int) : isNon (.int i) = false := nrfl rfl
@[simp] theorem isNon_b (b : Bool) : isNon (.bool b) = false := nrfl rfl
@[simp] theorem isNon_s (s : Str) : isNon (.str s) = false := nrfl rfl
@[simp] theorem isNon_l (ds : List D) : isNon (.list ds) = false := nrfl rfl
@[simp] theorem isNon_t (ds : List D) : isNon (.tuple ds) = false := nrfl rfl
@[simp] theorem wInt_i (i : Int) : wInt (.int i) = some (.sh (.int i)) := nrfl rfl
@[simp] theorem wK_sh1 (d : D) : eD.wK (.sh d) = some d := nrfl rfl
@[simp] theorem wK_emp : eD.wK .emp = none := nrfl rfl
theorem wMod_ii (i j : Int) (h : 0 < j) : wMod (.int i) (.int j) = some (.sh (.int (i % j))) := if_pos (show modOk i j = true from decide_eq_true h)
theorem wDiv_ii (i j : Int) (h : 0 < j) (z : j.natAbs.log2 < 9000) : wDiv (.int i) (.int j) = some (.sh (.int (i / j))) := if_pos (show divOk i j = true from decide_eq_true ⟨h, z⟩)
theorem wMul_ii (i j : Int) (h : i.natAbs.log2 + j.natAbs.log2 < 1000000) : wMul (.int i) (.int j) = some (.sh (.int (i * j))) := if_pos (show mulOk i j = true from decide_eq_true h)
theorem log2_lt {n k : Nat} (hk : 0 < k) (h : n < 2 ^ k) : n.log2 < k := by
  by_cases z : n = 0
  · subst z; simpa using hk
  · exact (Nat.log2_lt z).mpr h
theorem wPow_ii (i j : Int) (h : powOk i j = true) : wPow (.int i) (.int j) = some (.sh (.int (i ^ j.toNat))) := if_pos h
@[simp] theorem tOr_e (f g : Env → Option (Bool × Env)) (env : Env) : tOr' f g env = bd (f env) fun b e => if b = true then some (true, e) else g e := nrfl rfl
theorem lMax_2 (a b : Int) : lMax a [b] = max a b := by
  show (if b > a then b else a) = max a b
  split <;> omega
theorem lMin_2 (a b : Int) : lMin a [b] = min a b := by
  show (if b < a then b else a) = min a b
  split <;> omega
@[simp] theorem wMax_2 (a b : Int) : wMax [.int a, .int b] = some (.sh (.int (max a b))) := by
  rw [← lMax_2]; rfl
@[simp] theorem wMin_2 (a b : Int) : wMin [.int a, .int b] = some (.sh (.int (min a b))) := by
  rw [← lMin_2]; rfl
theorem intsOf_int (ns : List Int) : intsOf (ns.map .int) = some ns := by
  induction ns with
  | nil => rfl
  | cons n r ih => simp [intsOf, ih]
theorem boolsOf_bool (ns : List Bool) : boolsOf (ns.map .bool) = some ns := by
  induction ns with
  | nil => rfl
  | cons n r ih => simp [boolsOf, ih]

/-! ### loops -/
/-- a comprehension whose turns leave the slots as they are -/
theorem cLoop_map {tg : D → Env → Option Env} {fe : Env → Option (D × Env)} {vs : List Nat} {env : Env} {g : D → D} : ∀ {ds acc : List D}, (∀ d ∈ ds, ∃ e1 e2, tg d (wp vs env) = some e1 ∧ fe e1 = some (g d, e2) ∧ wp vs e2 = env) → cLoop tg tYs fe vs ds acc env = some (acc ++ ds.map g, env)
  | [], acc, _ => by simp [cLoop]
  | d :: ds, acc, h => by
    obtain ⟨e1, e2, h1, h2, h3⟩ := h d List.mem_cons_self
    rw [cLoop, h1]
    simp only [bo_some, tYs_e, bd_some, if_true, h2, h3]
    rw [cLoop_map fun d m => h d (List.mem_cons_of_mem _ m)]
    simp
theorem cLoop_filter {tg : D → Env → Option Env} {ft : Env → Option (Bool × Env)} {fe : Env → Option (D × Env)} {vs : List Nat} {env : Env} {b : D → Bool} {g : D → D} : ∀ {ds acc : List D}, (∀ d ∈ ds, ∃ e1 e2 e3, tg d (wp vs env) = some e1 ∧ ft e1 = some (b d, e2) ∧ wp vs e2 = env ∧ (b d = true → fe e2 = some (g d, e3) ∧ wp vs e3 = env)) →
    cLoop tg ft fe vs ds acc env = some (acc ++ (ds.filter b).map g, env)
  | [], acc, _ => by simp [cLoop]
  | d :: ds, acc, h => by
    obtain ⟨e1, e2, e3, h1, h2, h3, h4⟩ := h d List.mem_cons_self
    rw [cLoop, h1]
    simp only [bo_some, h2, bd_some]
    cases hb : b d with
    | false =>
      simp only [Bool.false_eq_true, if_false, h3]
      rw [cLoop_filter fun d m => h d (List.mem_cons_of_mem _ m)]
      simp [hb]
    | true =>
      obtain ⟨h5, h6⟩ := h4 hb
      simp only [if_true, h5, bd_some, h6]
      rw [cLoop_filter fun d m => h d (List.mem_cons_of_mem _ m)]
      simp [hb]
/-- a comprehension by a word of what it has -/
theorem cLoop_inv {tg : D → Env → Option Env} {fe : Env → Option (D × Env)} {vs : List Nat} (I : List D → Env → Prop) : ∀ {ds acc : List D} {env : Env}, I acc env → (∀ d ∈ ds, ∀ acc env, I acc env → ∃ e1 y e2, tg d (wp vs env) = some e1 ∧ fe e1 = some (y, e2) ∧ I (acc ++ [y]) (wp vs e2)) →
    ∃ ys env', cLoop tg tYs fe vs ds acc env = some (ys, env') ∧ I ys env' ∧ ys.length = acc.length + ds.length
  | [], acc, env, i, _ => ⟨acc, env, rfl, i, rfl⟩
  | d :: ds, acc, env, i, h => by
    obtain ⟨e1, y, e2, h1, h2, h3⟩ := h d List.mem_cons_self acc env i
    obtain ⟨ys, env', h4, h5, h6⟩ := cLoop_inv I h3 fun d m => h d (List.mem_cons_of_mem _ m)
    refine ⟨ys, env', ?_, h5, by rw [h6]; simp; omega⟩
    rw [cLoop, h1]
    simp only [bo_some, tYs_e, bd_some, if_true, h2]
    exact h4
theorem fLoop_inv {tg : D → Env → Option Env} {fb : Env → Option (Fl × Env)} (I : Nat → Env → Prop) : ∀ {ds : List D} {k : Nat} {env : Env}, I k env → (∀ i d env, ds[i]? = some d → I (k + i) env → ∃ e1 e2, tg d env = some e1 ∧ fb e1 = some (.nx, e2) ∧ I (k + i + 1) e2) →
    ∃ env', fLoop tg fb ds env = some (.nx, env') ∧ I (k + ds.length) env'
  | [], k, env, i, _ => ⟨env, rfl, i⟩
  | d :: ds, k, env, i, h => by
    obtain ⟨e1, e2, h1, h2, h3⟩ := h 0 d env rfl i
    obtain ⟨env', h4, h5⟩ := fLoop_inv (ds := ds) I h3 fun j d env hd hi => by
      have := h (j + 1) d env (by simpa using hd) (by rw [show k + (j + 1) = k + 0 + 1 + j by omega]; exact hi)
      rw [show k + 0 + 1 + j = k + (j + 1) by omega]
      exact this
    refine ⟨env', ?_, by rw [List.length_cons, show k + (ds.length + 1) = k + 0 + 1 + ds.length by omega]; exact h5⟩
    rw [fLoop, h1]
    simp only [bo_some, h2, lp_nx]
    exact h4
/-- while, by a measure -/
theorem wLoop_inv {fc : Env → Option (Bool × Env)} {fb : Env → Option (Fl × Env)} (I : Env → Prop) (m : Env → Nat) (J : Env → Prop) (h : ∀ env, I env → ∃ b e1, fc env = some (b, e1) ∧ (b = false → J e1) ∧ (b = true → ∃ e2, fb e1 = some (.nx, e2) ∧ I e2 ∧ m e2 < m env)) :
    ∀ {n : Nat} {env : Env}, I env → m env < n → ∃ env', wLoop fc fb n env = some (.nx, env') ∧ J env'
  | 0, _, _, z => by omega
  | n + 1, env, i, z => by
    obtain ⟨b, e1, h1, h2, h3⟩ := h env i
    rw [wLoop, h1]
    simp only [bd_some]
    cases b with
    | false => exact ⟨e1, by simp, h2 rfl⟩
    | true =>
      obtain ⟨e2, h4, h5, h6⟩ := h3 rfl
      obtain ⟨env', h7, h8⟩ := wLoop_inv I m J h h5 (show m e2 < n by omega)
      exact ⟨env', by simp only [if_true, h4, lp_nx]; exact h7, h8⟩
/-- a def told by its body -/
theorem runF_rt {n m : Nat} {fb : Env → Option (Fl × Env)} {ds : List D} {w : W} {e : Env} (hl : ds.length = n) (h : fb (ds.map W.sh ++ List.replicate (m - n) .emp) = some (.rt w, e)) : runF n m fb ds = some w := by
  unfold runF
  rw [if_pos hl, h]
theorem runF_nx {n m : Nat} {fb : Env → Option (Fl × Env)} {ds : List D} {e : Env} (hl : ds.length = n) (h : fb (ds.map W.sh ++ List.replicate (m - n) .emp) = some (.nx, e)) : runF n m fb ds = some (.sh .none) := by
  unfold runF
  rw [if_pos hl, h]
end Z

set_option Elab.async false
set_option linter.all false
set_option maxRecDepth 100000
set_option maxHeartbeats 4000000
/-! Z12: loops whatever the purse's address; facts of data. -/
namespace Z
open PySem PySem.Spec PyProof.Rows L2
theorem fLoopP_inv {tg : D → Env → Option Env} {fb : Env → Option (Fl × Env)} (I : Nat → (Addr → Env) → Prop) : ∀ {ds : List D} {k : Nat} {e : Addr → Env}, I k e → (∀ i d e, ds[i]? = some d → I (k + i) e → ∃ e1 e2 : Addr → Env, (∀ p, tg d (e p) = some (e1 p)) ∧ (∀ p, fb (e1 p) = some (.nx, e2 p)) ∧ I (k + i + 1) e2) →
    ∃ e' : Addr → Env, (∀ p, fLoop tg fb ds (e p) = some (.nx, e' p)) ∧ I (k + ds.length) e'
  | [], k, e, i, _ => ⟨e, fun _ => rfl, i⟩
  | d :: ds, k, e, i, h => by
    obtain ⟨e1, e2, h1, h2, h3⟩ := h 0 d e rfl i
    obtain ⟨e', h4, h5⟩ := fLoopP_inv (ds := ds) I h3 fun j d e hd hi => by
      have := h (j + 1) d e (by simpa using hd) (by rw [show k + (j + 1) = k + 0 + 1 + j by omega]; exact hi)
      rw [show k + 0 + 1 + j = k + (j + 1) by omega]
      exact this
    refine ⟨e', fun p => ?_, by rw [List.length_cons, show k + (ds.length + 1) = k + 0 + 1 + ds.length by omega]; exact h5⟩
    rw [fLoop, h1 p]
    simp only [bo_some, h2 p, lp_nx]
    exact h4 p
theorem cLoopP_inv {tg : D → Env → Option Env} {fe : Env → Option (D × Env)} {vs : List Nat} (I : List D → (Addr → Env) → Prop) (N : Nat) : ∀ {ds acc : List D} {e : Addr → Env}, acc.length + ds.length = N → I acc e → (∀ d ∈ ds, ∀ acc e, I acc e → acc.length < N → ∃ (e1 : Addr → Env) (y : D) (e2 : Addr → Env), (∀ p, tg d (wp vs (e p)) = some (e1 p)) ∧ (∀ p, fe (e1 p) = some (y, e2 p)) ∧ I (acc ++ [y]) fun p => wp vs (e2 p)) →
    ∃ (ys : List D) (e' : Addr → Env), (∀ p, cLoop tg tYs fe vs ds acc (e p) = some (ys, e' p)) ∧ I ys e' ∧ ys.length = N
  | [], acc, e, l, i, _ => ⟨acc, e, fun _ => rfl, i, by simpa using l⟩
  | d :: ds, acc, e, l, i, h => by
    rw [List.length_cons] at l
    obtain ⟨e1, y, e2, h1, h2, h3⟩ := h d List.mem_cons_self acc e i (by omega)
    obtain ⟨ys, e', h4, h5, h6⟩ := cLoopP_inv I N (ds := ds) (by rw [List.length_append]; simp; omega) h3 fun d m => h d (List.mem_cons_of_mem _ m)
    refine ⟨ys, e', fun p => ?_, h5, h6⟩
    rw [cLoop, h1 p]
    simp only [bo_some, tYs_e, bd_some, if_true, h2 p]
    exact h4 p
theorem cLoopN_inv {tg : D → Env → Option Env} {fe : Env → Option (W × Env)} {vs : List Nat} (I : List W → Env → Prop) : ∀ {ds : List D} {acc : List W} {env : Env}, I acc env → (∀ d ∈ ds, ∀ acc env, I acc env → ∃ e1 y e2, tg d (wp vs env) = some e1 ∧ fe e1 = some (y, e2) ∧ I (acc ++ [y]) (wp vs e2)) →
    ∃ ys env', cLoopN tg fe vs ds acc env = some (ys, env') ∧ I ys env'
  | [], acc, env, i, _ => ⟨acc, env, rfl, i⟩
  | d :: ds, acc, env, i, h => by
    obtain ⟨e1, y, e2, h1, h2, h3⟩ := h d List.mem_cons_self acc env i
    obtain ⟨ys, env', h4, h5⟩ := cLoopN_inv I h3 fun d m => h d (List.mem_cons_of_mem _ m)
    refine ⟨ys, env', ?_, h5⟩
    rw [cLoopN, h1]
    simp only [bo_some, bd_some, h2]
    exact h4
theorem atI_nat {α : Type} (xs : List α) (r : Nat) : atI xs (r : Int) = xs[r]? := by
  unfold atI ixN
  by_cases h : r < xs.length
  · rw [if_pos (by omega), if_pos (by omega)]
    simp
  · rw [if_pos (by omega), if_neg (by omega), List.getElem?_eq_none (by omega)]
    rfl
theorem wIx_l (ds : List D) (i : Int) : wIx (.list ds) (.int i) = bo (atI ds i) fun d => some (.sh d) := rfl
theorem wIx_nat (ds : List D) (r : Nat) (h : r < ds.length) : wIx (.list ds) (.int (r : Int)) = some (.sh ds[r]) := by
  rw [wIx_l, atI_nat, List.getElem?_eq_getElem h]; rfl
theorem wIx_int (ds : List D) (i : Int) (h0 : 0 ≤ i) (h : i.toNat < ds.length) : wIx (.list ds) (.int i) = some (.sh ds[i.toNat]) := by
  have := wIx_nat ds i.toNat h
  rwa [Int.toNat_of_nonneg h0] at this
theorem wIx_last (ds : List D) (d : D) : wIx (.list (ds ++ [d])) (.int (-1)) = some (.sh d) := by
  rw [wIx_l]
  unfold atI ixN
  rw [if_neg (by decide), if_pos (by simp; omega)]
  rw [show ((-1 : Int) + ((ds ++ [d]).length : Nat)).toNat = ds.length by simp; omega]
  simp
theorem bits_small {m : Int} (k : Nat) (hk : 0 < k) (hm : 1 ≤ m) (h : m.toNat < 2 ^ k) : Builtin.Int.intBits m ≤ k := by
  have hz : (m == 0) = false := by simp; omega
  have : m.natAbs.log2 < k := log2_lt hk (by rw [show m.natAbs = m.toNat by omega]; exact h)
  simp [Builtin.Int.intBits, hz]
  omega
theorem rng_mem {lo : Int} {n : Nat} {d : D} (h : d ∈ rng lo n) : ∃ i : Nat, i < n ∧ d = .int (lo + (i : Int)) := by
  unfold rng at h
  obtain ⟨i, h1, rfl⟩ := List.mem_map.mp h
  exact ⟨i, List.mem_range.mp h1, rfl⟩
theorem rngI_1 (n : Nat) (h : n ≤ 8388608) : rngI [.int (n : Int)] = some (rng 0 n) := by
  show (if inR (n : Int) = true then some (rng 0 (n : Int).toNat) else none) = _
  rw [if_pos (inR_iff.mpr ⟨by omega, by omega⟩), Int.toNat_natCast]
theorem smallLen_of {n : Nat} (h : n < 1000000) : smallLen n = true := decide_eq_true h
end Z

set_option Elab.async false
set_option linter.all false
set_option maxRecDepth 100000
set_option maxHeartbeats 4000000
/-! Z13: how long a text repr gives; which data may be shown. -/
namespace Z
open PySem PySem.Spec PyProof.Rows L2
mutual
/-- no text, no dict; ints of at most 1900 bits -/
def plD : D → Bool
  | .none => true
  | .bool _ => true
  | .int i => decide (i.natAbs.log2 < 1900)
  | .list ds => plDs ds
  | .tuple ds => plDs ds
  | _ => false
def plDs : List D → Bool
  | [] => true
  | d :: r => plD d && plDs r
end
mutual
def szD : D → Nat
  | .none => 4
  | .bool _ => 5
  | .int i => i.natAbs.log2 + 2
  | .list ds => 2 + szDs ds
  | .tuple ds => 4 + szDs ds
  | _ => 0
def szDs : List D → Nat
  | [] => 0
  | d :: r => szD d + 2 + szDs r
end
theorem textFrom_le : ∀ (ts : List Str) (k : Nat) (acc : Str), (textFrom k acc ts).length ≤ acc.length + piled ts
  | [], _, acc => by simp [textFrom, piled]
  | t :: r, k, acc => by
    have ih := textFrom_le r (k + 1) (acc ++ (if k > 0 then ", " else "" : String) ++ t)
    rw [textFrom, piled_cons]
    refine Nat.le_trans ih ?_
    rw [Str.length_append, Str.length_append]
    have : (Str.ofString (if k > 0 then ", " else "" : String)).length ≤ 2 := by split <;> decide +kernel
    omega
theorem list_le (ts : List Str) : (listText ts).length ≤ 2 + piled ts := by
  have h := textFrom_le ts 0 "["
  have e1 : (Str.ofString "[").length = 1 := by decide +kernel
  have e2 : (Str.ofString "]").length = 1 := by decide +kernel
  show (textFrom 0 "[" ts ++ Str.ofString "]").length ≤ _
  rw [Str.length_append, e2]
  rw [e1] at h
  omega
theorem tuple_le (ts : List Str) : (tupleText ts).length ≤ 4 + piled ts := by
  have e1 : (Str.ofString "(").length = 1 := by decide +kernel
  have e2 : (Str.ofString (if ts.length == 1 then ",)" else ")" : String)).length ≤ 2 := by split <;> decide +kernel
  show (Str.ofString "(" ++ Str.join ", " ts ++ Str.ofString (if ts.length == 1 then ",)" else ")" : String)).length ≤ _
  rw [Str.length_append, Str.length_append, e1]
  have h : (Str.join ", " ts).length ≤ piled ts := by
    cases ts with
    | nil => exact Nat.le_of_eq (by decide +kernel)
    | cons t r => have := join_length_add (t :: r) (by simp); omega
  omega
mutual
theorem shown_le : ∀ d : D, plD d = true → d.shown.length ≤ szD d
  | .none, _ => by show (Str.ofString "None").length ≤ 4; decide +kernel
  | .bool b, _ => by cases b <;> (show (Str.ofString _).length ≤ 5; decide +kernel)
  | .int i, h => by
    show (Str.ofString (toString i)).length ≤ i.natAbs.log2 + 2
    rw [PySem.ofString_length]
    exact int_text_length_le (by omega) (Nat.lt_succ_self _)
  | .str _, h => by cases h
  | .dict _, h => by cases h
  | .list ds, h => by
    show (listText (PyData.shownAll ds)).length ≤ 2 + szDs ds
    have := list_le (PyData.shownAll ds)
    have := shownAll_le ds h
    omega
  | .tuple ds, h => by
    show (tupleText (PyData.shownAll ds)).length ≤ 4 + szDs ds
    have := tuple_le (PyData.shownAll ds)
    have := shownAll_le ds h
    omega
theorem shownAll_le : ∀ ds : List D, plDs ds = true → piled (PyData.shownAll ds) ≤ szDs ds
  | [], _ => by show piled [] ≤ 0; decide
  | d :: r, h => by
    have h := Bool.and_eq_true_iff.mp (show (plD d && plDs r) = true from h)
    have h1 := shown_le d h.1
    have h2 := shownAll_le r h.2
    show piled (d.shown :: PyData.shownAll r) ≤ szD d + 2 + szDs r
    rw [piled_cons]
    omega
end
mutual
theorem plD_showable : ∀ d : D, plD d = true → d.showable = true
  | .none, _ => rfl
  | .bool _, _ => rfl
  | .int i, h => by
    have h := of_decide_eq_true (show decide (i.natAbs.log2 < 1900) = true from h)
    exact decide_eq_true (by omega)
  | .str _, h => by cases h
  | .dict _, h => by cases h
  | .list ds, h => plDs_showable ds h
  | .tuple ds, h => plDs_showable ds h
theorem plDs_showable : ∀ ds : List D, plDs ds = true → PyData.showableAll ds = true
  | [], _ => rfl
  | d :: r, h => by
    have h := Bool.and_eq_true_iff.mp (show (plD d && plDs r) = true from h)
    show (PyData.showable d && PyData.showableAll r) = true
    rw [plD_showable d h.1, plDs_showable r h.2]; rfl
end
mutual
theorem plD_nodict : ∀ d : D, plD d = true → d.hasDict = false
  | .none, _ => rfl
  | .bool _, _ => rfl
  | .int i, h => rfl
  | .str _, h => by cases h
  | .dict _, h => by cases h
  | .list ds, h => plDs_nodict ds h
  | .tuple ds, h => plDs_nodict ds h
theorem plDs_nodict : ∀ ds : List D, plDs ds = true → PyData.hasDictAll ds = false
  | [], _ => rfl
  | d :: r, h => by
    have h := Bool.and_eq_true_iff.mp (show (plD d && plDs r) = true from h)
    show (PyData.hasDict d || PyData.hasDictAll r) = false
    rw [plD_nodict d h.1, plDs_nodict r h.2]; rfl
end
theorem shown_ok {d : D} (h : plD d = true) (k : d.depth < 50) (z : szD d ≤ 1000000) : shownOk d = true := by
  have h1 := shown_le d h
  unfold shownOk
  rw [plD_showable d h, plD_nodict d h, decide_eq_true k, decide_eq_true (Nat.le_trans h1 z)]; rfl
theorem plDs_ints {ns : List Int} (h : ∀ n ∈ ns, n.natAbs.log2 < 1900) : plDs (ns.map .int) = true := by
  induction ns with
  | nil => rfl
  | cons n r ih =>
    show (decide (n.natAbs.log2 < 1900) && plDs (r.map .int)) = true
    rw [decide_eq_true (h n List.mem_cons_self), ih fun m hm => h m (List.mem_cons_of_mem _ hm)]; rfl
theorem szDs_ints {ns : List Int} {k : Nat} (h : ∀ n ∈ ns, n.natAbs.log2 < k) : szDs (ns.map .int) ≤ ns.length * (k + 4) := by
  induction ns with
  | nil => exact Nat.zero_le _
  | cons n r ih =>
    show n.natAbs.log2 + 2 + 2 + szDs (r.map .int) ≤ (r.length + 1) * (k + 4)
    have := h n List.mem_cons_self
    have := ih fun m hm => h m (List.mem_cons_of_mem _ hm)
    rw [Nat.add_mul]
    omega
theorem depth_ints (ns : List Int) : PyData.depthAll (ns.map .int) = 0 := by
  induction ns with
  | nil => rfl
  | cons n r ih =>
    show max 0 (PyData.depthAll (r.map .int)) = 0
    rw [ih]; rfl
theorem repr_ints {ns : List Int} (h : ∀ n ∈ ns, n.natAbs.log2 < 100) (hl : ns.length ≤ 9000) : wRepr (.list (ns.map .int)) = some (.sh (.str (PyData.shown (.list (ns.map .int))))) := by
  have := szDs_ints h
  refine if_pos (shown_ok (d := .list (ns.map .int)) (plDs_ints fun n m => by have := h n m; omega) ?_ ?_)
  · show PyData.depthAll (ns.map .int) + 1 < 50
    rw [depth_ints]; decide
  · show 2 + szDs (ns.map .int) ≤ _
    have : ns.length * (100 + 4) ≤ 9000 * 104 := Nat.mul_le_mul_right _ hl
    omega
theorem wMul_rep (ds : List D) (n : Nat) (h : ds.length * n < 1000000) (hn : n < 1000000) : wMul (.list ds) (.int (n : Int)) = some (.ow (List.replicate n ds).flatten) := by
  have : repOk ds.length (n : Int) = true := by
    unfold repOk
    rw [Int.toNat_natCast]
    exact decide_eq_true ⟨by omega, by omega, h⟩
  have e : (if repOk ds.length (n : Int) = true then some (W.ow (List.replicate (n : Int).toNat ds).flatten) else none) = some (W.ow (List.replicate (n : Int).toNat ds).flatten) := if_pos this
  rw [Int.toNat_natCast] at e
  exact e
theorem flat_one (d : D) : ∀ n : Nat, (List.replicate n [d]).flatten = List.replicate n d
  | 0 => rfl
  | n + 1 => by rw [List.replicate_succ, List.replicate_succ, List.flatten_cons, flat_one d n]; rfl
theorem eB_v {op : D → D → Option W} {f g : Env → Option (Opd × Env)} {env e1 e2 : Env} {a b : Opd} {x y : D} {w : W} (h1 : f env = some (a, e1)) (h2 : g e1 = some (b, e2)) (h3 : a.look e2 = some x) (h4 : b.look e2 = some y) (h5 : op x y = some w) : eB op f g env = some (w, e2) := by
  unfold eB
  rw [h1, bd_some, h2, bd_some, h3, bo_some, h4, bo_some, h5, bo_some]
end Z

set_option Elab.async false
set_option linter.all false
set_option maxRecDepth 100000
set_option maxHeartbeats 4000000
set_option pp.maxSteps 300
set_option pp.deepTerms false
namespace Law
open PySem PySem.Spec PyProof.Rows L2 Z
def topS (i : Nat) : Stmt := PySem.Challenge.pw_suretricks_k62_whole_counting_on.main.body.getD i (.Pass ⟨0, 0, 0, 0⟩)
def fuel : Nat := 100000
structure Txt (mg : Str → Option Value) : Prop where
  m_all : mg "all" = none
  m_bool : mg "bool" = none
  m_gcd : mg "gcd" = some (.builtin "math.gcd")
  m_int : mg "int" = none
  m_isinstance : mg "isinstance" = none
  m_len : mg "len" = none
  m_list : mg "list" = none
  m_max : mg "max" = none
  m_min : mg "min" = none
  m_range : mg "range" = none
  m_repr : mg "repr" = none
  m_set : mg "set" = none
  m_str : mg "str" = none
  m_sum : mg "sum" = none
  m_tuple : mg "tuple" = none
  m_zip : mg "zip" = none
noncomputable section
variable {P : Program} {w : World} {K : PySem.W.Frag} {mg : Str → Option Value} {base : Heap}
abbrev s_is_whole : Stmt := topS 2
theorem sc_is_whole : FnScope ["value"] ["value"] (defScope s_is_whole) := ⟨rfl, rfl, rfl, by decide +kernel, rfl, by decide +kernel, by decide +kernel⟩
def b_is_whole : Z.Env → Option (Fl × Z.Env) := (sRet (sW (bsc (bAn (bU (wTy isInt) (bV 0)) (bNo (bU (wTy isBool) (bV 0)))))))
def F_is_whole : List D → Option W := runF 1 1 (b_is_whole)
theorem w_is_whole {f : Addr} {fd : FuncData} (F0 : FunZ K "is_whole" s_is_whole f fd) (T : Txt mg)  : FnG P w K mg base CX0 (0 + 1) f fd ["value"] (spF (F_is_whole)) := by
  refine fn_G F0 sc_is_whole rfl rfl fun cdv A out s H E hr gu => ?_
  have hu := hr.units
  exact (xss_1 (xs_ret (xb_and (xb_isi ty_int T.m_isinstance T.m_int (by decide +kernel) (xb_v 0) ) (xb_one (xb_not (xb_isi ty_bool T.m_isinstance T.m_bool (by decide +kernel) (xb_v 0) )))).d.w))
abbrev s_is_count : Stmt := topS 3
theorem sc_is_count : FnScope ["value", "least"] ["value", "least"] (defScope s_is_count) := ⟨rfl, rfl, rfl, by decide +kernel, rfl, by decide +kernel, by decide +kernel⟩
def b_is_count : Z.Env → Option (Fl × Z.Env) := (sRet (sW (bsc (bAn (bCB F_is_whole (bCs (bV 0) bN)) (bB wGe (bV 0) (bCB (wMax) (bCs (bV 1) (bCs (bC (.int 0)) bN))))))))
def F_is_count : List D → Option W := runF 2 2 (b_is_count)
theorem w_is_count {f : Addr} {fd : FuncData} (F0 : FunZ K "is_count" s_is_count f fd) (T : Txt mg) {fd_is_whole : FuncData} (c_is_whole : Cal P w K mg base 1 "is_whole" fd_is_whole ["value"] (spF F_is_whole)) (b_is_whole : Binds K fd_is_whole ["value"] []) : FnG P w K mg base CX0 (1 + 1) f fd ["value", "least"] (spF (F_is_count)) := by
  refine fn_G F0 sc_is_count rfl rfl fun cdv A out s H E hr gu => ?_
  have hu := hr.units
  exact (xss_1 (xs_ret (xb_and (xb_fn ⟨hr, gu, (c_is_whole.up (by decide)).ex⟩ b_is_whole (xba_c (xb_v 0) xba_n)) (xb_one (xb_cmp op_geX (xb_v 0) (xb_blt (max_X rfl) T.m_max (by decide +kernel) (xba_c (xb_v 1) (xba_c xb_i xba_n)))))).d.w))
abbrev s_is_pack : Stmt := topS 9
theorem sc_is_pack : FnScope ["value", "card"] ["value"] (defScope s_is_pack) := ⟨rfl, rfl, rfl, by decide +kernel, rfl, by decide +kernel, by decide +kernel⟩
def b_is_pack : Z.Env → Option (Fl × Z.Env) := (sSeq (sIf (tOr' (tNo (tD (bsc (bU (wTy isList) (bV 0))))) (tNo (tD (fz (eCB (c1 wAll) (aC (vO (fz (eLc (iS (eD 0)) (tgN 1) tYs (bsc (bCB (fun ds => F_is_count (ds ++ [.int 0])) (bCs (bV 1) bN))) [1]))) aN)))))) (sRet (sW (eC (.bool false)))) sNx) (sRet (eB wEq (vO (fz (eU wLenSet (eV 0)))) (vO (bsc (bCB (c1 wLen) (bCs (bV 0) bN)))))))
def F_is_pack : List D → Option W := runF 1 2 (b_is_pack)
theorem w_is_pack {f : Addr} {fd : FuncData} (F0 : FunZ K "is_pack" s_is_pack f fd) (T : Txt mg) {fd_is_count : FuncData} (c_is_count : Cal P w K mg base 2 "is_count" fd_is_count ["value", "least"] (spF F_is_count)) (b_is_count : Binds K fd_is_count ["value", "least"] []) {t_d_is_count_1 : Tok} (d_is_count_1 : Binds K fd_is_count ["value", "least"] [.int 0 t_d_is_count_1]) : FnG P w K mg base CX0 (2 + 1) f fd ["value"] (spF (F_is_pack)) := by
  refine fn_G F0 sc_is_pack rfl rfl fun cdv A out s H E hr gu => ?_
  have hu := hr.units
  exact (xss_c (xs_if (xt_or (xt_not (xb_isi ty_list T.m_isinstance T.m_list (by decide +kernel) (xb_v 0) ).d.t) (xt_or1 (xt_not (xw_blt (all_X rfl) T.m_all (by decide +kernel) (xa_c (xw_lc [("card", 1)] sc_is_pack.nd (xi_s (xd_v 0)) (blkOk_by (own := [("card", 1)]) (N := ["value", "card"]) (sc := (defScope s_is_pack)) (by decide +kernel)) (fun _ _ _ _ _ => (xg_n 1 sc_is_pack.nd)) (fun _ _ _ _ _ => (xb_fnD (dds := [.int 0]) ⟨hr, gu, (c_is_count.up (by decide)).ex⟩ d_is_count_1 vi1 (fun _ => .cons (.int 0) (.nil)) (xba_c (xb_v 1) xba_n)).d)).d.o xa_n)).d.t))).t (xss_1 (xs_ret xd_b.w)) xss_n) (xss_1 (xs_ret (xw_cmp (op_eqX hu) (xw_lenSet T.m_len T.m_set (xo_v 0)).d.o (xb_blt len_X T.m_len (by decide +kernel) (xba_c (xb_v 0) xba_n)).d.o))))
abbrev s_check_pack : Stmt := topS 10
theorem sc_check_pack : FnScope ["value"] ["value"] (defScope s_check_pack) := ⟨rfl, rfl, rfl, by decide +kernel, rfl, by decide +kernel, by decide +kernel⟩
def b_check_pack : Z.Env → Option (Fl × Z.Env) := (sIf (tNo (tD (bsc (bCB F_is_pack (bCs (bV 0) bN))))) sNever sNx)
def F_check_pack : List D → Option W := runF 1 1 (b_check_pack)
theorem w_check_pack {f : Addr} {fd : FuncData} (F0 : FunZ K "check_pack" s_check_pack f fd) (T : Txt mg) {fd_is_pack : FuncData} (c_is_pack : Cal P w K mg base 3 "is_pack" fd_is_pack ["value"] (spF F_is_pack)) (b_is_pack : Binds K fd_is_pack ["value"] []) : FnG P w K mg base CX0 (3 + 1) f fd ["value"] (spF (F_check_pack)) := by
  refine fn_G F0 sc_check_pack rfl rfl fun cdv A out s H E hr gu => ?_
  have hu := hr.units
  exact (xss_1 (xs_if (xt_not (xb_fn ⟨hr, gu, (c_is_pack.up (by decide)).ex⟩ b_is_pack (xba_c (xb_v 0) xba_n)).d.t) (xss_1 xs_never) xss_n))
abbrev s_fraction : Stmt := topS 12
theorem sc_fraction : FnScope ["above", "below", "many"] ["above", "below"] (defScope s_fraction) := ⟨rfl, rfl, rfl, by decide +kernel, rfl, by decide +kernel, by decide +kernel⟩
def b_fraction : Z.Env → Option (Fl × Z.Env) := (sSeq (sSet 2 (eIf (tD (bsc (bB wGt (bV 1) (bC (.int 0))))) (sW (bsc (bCB (c2 wGcd) (bCs (bV 0) (bCs (bV 1) bN))))) (eB wSub (vO (eC (.int 0))) (vO (bsc (bCB (c2 wGcd) (bCs (bV 0) (bCs (bV 1) bN)))))))) (sRet (eTup (adC (fz (eB wDiv (eV 0) (eV 2))) (adC (fz (eB wDiv (eV 1) (eV 2))) adN)))))
def F_fraction : List D → Option W := runF 2 3 (b_fraction)
theorem w_fraction {f : Addr} {fd : FuncData} (F0 : FunZ K "fraction" s_fraction f fd) (T : Txt mg)  : FnG P w K mg base CX0 (0 + 1) f fd ["above", "below"] (spF (F_fraction)) := by
  refine fn_G F0 sc_fraction rfl rfl fun cdv A out s H E hr gu => ?_
  have hu := hr.units
  exact (xss_c (xs_set 2 (xw_if (xt_cmp op_gtX (xb_v 1) xb_i) (xb_bmo gcd_X T.m_gcd (xba_c (xb_v 0) (xba_c (xb_v 1) xba_n))).d.w (xw_bin op_subX xd_i.o (xb_bmo gcd_X T.m_gcd (xba_c (xb_v 0) (xba_c (xb_v 1) xba_n))).d.o)) sc_fraction.nd) (xss_1 (xs_ret (xw_tup (xad_c (xw_bin op_divX (xo_v 0) (xo_v 2)).d (xad_c (xw_bin op_divX (xo_v 1) (xo_v 2)).d xad_n))))))
abbrev s_are_counts : Stmt := topS 19
theorem sc_are_counts : FnScope ["value", "count"] ["value"] (defScope s_are_counts) := ⟨rfl, rfl, rfl, by decide +kernel, rfl, by decide +kernel, by decide +kernel⟩
def b_are_counts : Z.Env → Option (Fl × Z.Env) := (sRet (sW (eAn (bsc (bU (wTy isList) (bV 0))) (fz (eCB (c1 wAll) (aC (vO (fz (eLc (iS (eD 0)) (tgN 1) tYs (bsc (bCB F_is_count (bCs (bV 1) (bCs (bC (.int 1)) bN)))) [1]))) aN))))))
def F_are_counts : List D → Option W := runF 1 2 (b_are_counts)
theorem w_are_counts {f : Addr} {fd : FuncData} (F0 : FunZ K "are_counts" s_are_counts f fd) (T : Txt mg) {fd_is_count : FuncData} (c_is_count : Cal P w K mg base 2 "is_count" fd_is_count ["value", "least"] (spF F_is_count)) (b_is_count : Binds K fd_is_count ["value", "least"] []) : FnG P w K mg base CX0 (2 + 1) f fd ["value"] (spF (F_are_counts)) := by
  refine fn_G F0 sc_are_counts rfl rfl fun cdv A out s H E hr gu => ?_
  have hu := hr.units
  exact (xss_1 (xs_ret (xd_and (xb_isi ty_list T.m_isinstance T.m_list (by decide +kernel) (xb_v 0) ).d (xd_one (xw_blt (all_X rfl) T.m_all (by decide +kernel) (xa_c (xw_lc [("count", 1)] sc_are_counts.nd (xi_s (xd_v 0)) (blkOk_by (own := [("count", 1)]) (N := ["value", "count"]) (sc := (defScope s_are_counts)) (by decide +kernel)) (fun _ _ _ _ _ => (xg_n 1 sc_are_counts.nd)) (fun _ _ _ _ _ => (xb_fn ⟨hr, gu, (c_is_count.up (by decide)).ex⟩ b_is_count (xba_c (xb_v 1) (xba_c xb_i xba_n))).d)).d.o xa_n)).d)).w))
abbrev s_check_counts : Stmt := topS 20
theorem sc_check_counts : FnScope ["counts"] ["counts"] (defScope s_check_counts) := ⟨rfl, rfl, rfl, by decide +kernel, rfl, by decide +kernel, by decide +kernel⟩
def b_check_counts : Z.Env → Option (Fl × Z.Env) := (sIf (tNo (tD (bsc (bCB F_are_counts (bCs (bV 0) bN))))) sNever sNx)
def F_check_counts : List D → Option W := runF 1 1 (b_check_counts)
theorem w_check_counts {f : Addr} {fd : FuncData} (F0 : FunZ K "check_counts" s_check_counts f fd) (T : Txt mg) {fd_are_counts : FuncData} (c_are_counts : Cal P w K mg base 3 "are_counts" fd_are_counts ["value"] (spF F_are_counts)) (b_are_counts : Binds K fd_are_counts ["value"] []) : FnG P w K mg base CX0 (3 + 1) f fd ["counts"] (spF (F_check_counts)) := by
  refine fn_G F0 sc_check_counts rfl rfl fun cdv A out s H E hr gu => ?_
  have hu := hr.units
  exact (xss_1 (xs_if (xt_not (xb_fn ⟨hr, gu, (c_are_counts.up (by decide)).ex⟩ b_are_counts (xba_c (xb_v 0) xba_n)).d.t) (xss_1 xs_never) xss_n))
abbrev s_check_start : Stmt := topS 21
theorem sc_check_start : FnScope ["counts", "start"] ["counts", "start"] (defScope s_check_start) := ⟨rfl, rfl, rfl, by decide +kernel, rfl, by decide +kernel, by decide +kernel⟩
def b_check_start : Z.Env → Option (Fl × Z.Env) := (sSeq (sDrop (eF F_check_counts (adC (eD 0) adN))) (sIf (tOr' (tNo (tD (bsc (bCB (fun ds => F_is_count (ds ++ [.int 0])) (bCs (bV 1) bN))))) (tD (bsc (bB wGe (bV 1) (bCB (c1 wLen) (bCs (bV 0) bN)))))) sNever sNx))
def F_check_start : List D → Option W := runF 2 2 (b_check_start)
theorem w_check_start {f : Addr} {fd : FuncData} (F0 : FunZ K "check_start" s_check_start f fd) (T : Txt mg) {fd_is_count : FuncData} (c_is_count : Cal P w K mg base 2 "is_count" fd_is_count ["value", "least"] (spF F_is_count)) (b_is_count : Binds K fd_is_count ["value", "least"] []) {fd_check_counts : FuncData} (c_check_counts : Cal P w K mg base 4 "check_counts" fd_check_counts ["counts"] (spF F_check_counts)) (b_check_counts : Binds K fd_check_counts ["counts"] []) {t_d_is_count_1 : Tok} (d_is_count_1 : Binds K fd_is_count ["value", "least"] [.int 0 t_d_is_count_1]) : FnG P w K mg base CX0 (4 + 1) f fd ["counts", "start"] (spF (F_check_start)) := by
  refine fn_G F0 sc_check_start rfl rfl fun cdv A out s H E hr gu => ?_
  have hu := hr.units
  exact (xss_c (xs_expr (xw_fn ⟨hr, gu, (c_check_counts.up (by decide)).ex⟩ b_check_counts (xad_c (xd_v 0) xad_n))) (xss_1 (xs_if (xt_or (xt_not (xb_fnD (dds := [.int 0]) ⟨hr, gu, (c_is_count.up (by decide)).ex⟩ d_is_count_1 vi1 (fun _ => .cons (.int 0) (.nil)) (xba_c (xb_v 1) xba_n)).d.t) (xt_or1 (xt_cmp op_geX (xb_v 1) (xb_blt len_X T.m_len (by decide +kernel) (xba_c (xb_v 0) xba_n))))).t (xss_1 xs_never) xss_n)))
abbrev s_way_there : Stmt := topS 22
theorem sc_way_there : FnScope ["counts", "start", "found"] ["counts", "start"] (defScope s_way_there) := ⟨rfl, rfl, rfl, by decide +kernel, rfl, by decide +kernel, by decide +kernel⟩
def b_way_there : Z.Env → Option (Fl × Z.Env) := (sSeq (sSet 2 (eLst (adC (eD 1) adN))) (sSeq (wLoop (tD (bsc (bB wLt (bB wAdd (bB wIx (bV 2) (bU wNeg (bC (.int 1)))) (bB wIx (bV 0) (bB wIx (bV 2) (bU wNeg (bC (.int 1)))))) (bCB (c1 wLen) (bCs (bV 0) bN))))) (sDrop (eApp 2 (fz (eB wAdd (vO (fz (eB wIx (eV 2) (vO (fz (eU wNeg (vO (eC (.int 1))))))))) (vO (fz (eB wIx (eV 0) (vO (fz (eB wIx (eV 2) (vO (fz (eU wNeg (vO (eC (.int 1)))))))))))))))) fuel) (sRet (eM 2))))
def F_way_there : List D → Option W := runF 2 3 (b_way_there)
theorem w_way_there {f : Addr} {fd : FuncData} (F0 : FunZ K "way_there" s_way_there f fd) (T : Txt mg)  : FnG P w K mg base CX0 (0 + 1) f fd ["counts", "start"] (spF (F_way_there)) := by
  refine fn_G F0 sc_way_there rfl rfl fun cdv A out s H E hr gu => ?_
  have hu := hr.units
  exact (xss_c (xs_set 2 (xw_lst (xad_c (xd_v 1) xad_n)) sc_way_there.nd) (xss_c (xs_while fuel (xt_cmp op_ltX (xb_bin op_addX (xb_ix (xb_v 2) (xb_un un_negX xb_i)) (xb_ix (xb_v 0) (xb_ix (xb_v 2) (xb_un un_negX xb_i)))) (xb_blt len_X T.m_len (by decide +kernel) (xba_c (xb_v 0) xba_n))) (xss_1 (xs_expr (xw_app 2 (xw_bin op_addX (xw_ix (xo_v 2) (xw_un un_negX xd_i.o).d.o).d.o (xw_ix (xo_v 0) (xw_ix (xo_v 2) (xw_un un_negX xd_i.o).d.o).d.o).d.o).d)))) (xss_1 (xs_ret (xw_m 2)))))
abbrev s_way_from : Stmt := topS 23
theorem sc_way_from : FnScope ["counts", "start"] ["counts", "start"] (defScope s_way_from) := ⟨rfl, rfl, rfl, by decide +kernel, rfl, by decide +kernel, by decide +kernel⟩
def b_way_from : Z.Env → Option (Fl × Z.Env) := (sSeq (sDrop (eF F_check_start (adC (eD 0) (adC (eD 1) adN)))) (sRet (eF F_way_there (adC (eD 0) (adC (eD 1) adN)))))
def F_way_from : List D → Option W := runF 2 2 (b_way_from)
theorem w_way_from {f : Addr} {fd : FuncData} (F0 : FunZ K "way_from" s_way_from f fd) (T : Txt mg) {fd_way_there : FuncData} (c_way_there : Cal P w K mg base 1 "way_there" fd_way_there ["counts", "start"] (spF F_way_there)) (b_way_there : Binds K fd_way_there ["counts", "start"] []) {fd_check_start : FuncData} (c_check_start : Cal P w K mg base 5 "check_start" fd_check_start ["counts", "start"] (spF F_check_start)) (b_check_start : Binds K fd_check_start ["counts", "start"] []) : FnG P w K mg base CX0 (5 + 1) f fd ["counts", "start"] (spF (F_way_from)) := by
  refine fn_G F0 sc_way_from rfl rfl fun cdv A out s H E hr gu => ?_
  have hu := hr.units
  exact (xss_c (xs_expr (xw_fn ⟨hr, gu, (c_check_start.up (by decide)).ex⟩ b_check_start (xad_c (xd_v 0) (xad_c (xd_v 1) xad_n)))) (xss_1 (xs_ret (xw_fn ⟨hr, gu, (c_way_there.up (by decide)).ex⟩ b_way_there (xad_c (xd_v 0) (xad_c (xd_v 1) xad_n))))))
abbrev s_ends_there : Stmt := topS 24
theorem sc_ends_there : FnScope ["counts", "found", "place", "late"] ["counts"] (defScope s_ends_there) := ⟨rfl, rfl, rfl, by decide +kernel, rfl, by decide +kernel, by decide +kernel⟩
def b_ends_there : Z.Env → Option (Fl × Z.Env) := (sSeq (sSet 1 (eB wMul (vO (fz (eLst (adC (eC (.int 0)) adN)))) (vO (bsc (bCB (c1 wLen) (bCs (bV 0) bN)))))) (sSeq (sFor (iRd (aC (vO (fz (eB wSub (vO (bsc (bCB (c1 wLen) (bCs (bV 0) bN)))) (vO (eC (.int 1)))))) (aC (vO (fz (eU wNeg (vO (eC (.int 1)))))) (aC (vO (fz (eU wNeg (vO (eC (.int 1)))))) aN)))) (tgN 2) (sWq [2, 3] (sSeq (sSet 3 (eB wAdd (eV 2) (vO (fz (eB wIx (eV 0) (eV 2)))))) (sIx 1 (eD 2) (fz (eIf (tD (bsc (bB wLt (bV 3) (bCB (c1 wLen) (bCs (bV 0) bN))))) (eB wIx (eV 1) (eV 3)) (sW (eD 2)))))))) (sRet (eM 1))))
def F_ends_there : List D → Option W := runF 1 4 (b_ends_there)
theorem w_ends_there {f : Addr} {fd : FuncData} (F0 : FunZ K "ends_there" s_ends_there f fd) (T : Txt mg)  : FnG P w K mg base CX0 (0 + 1) f fd ["counts"] (spF (F_ends_there)) := by
  refine fn_G F0 sc_ends_there rfl rfl fun cdv A out s H E hr gu => ?_
  have hu := hr.units
  exact (xss_c (xs_set 1 (xw_bin op_mulX (xw_lst (xad_c xd_i xad_n)).d.o (xb_blt len_X T.m_len (by decide +kernel) (xba_c (xb_v 0) xba_n)).d.o) sc_ends_there.nd) (xss_c (xs_for (xi_rd T.m_range (xa_c (xw_bin op_subX (xb_blt len_X T.m_len (by decide +kernel) (xba_c (xb_v 0) xba_n)).d.o xd_i.o).d.o (xa_c (xw_un un_negX xd_i.o).d.o (xa_c (xw_un un_negX xd_i.o).d.o xa_n)))) (xg_n 2 sc_ends_there.nd) (xss_q [2, 3] (xss_c (xs_set 3 (xw_bin op_addX (xo_v 2) (xw_ix (xo_v 0) (xo_v 2)).d.o) sc_ends_there.nd) (xss_1 (xs_ix 1 (xw_if (xt_cmp op_ltX (xb_v 3) (xb_blt len_X T.m_len (by decide +kernel) (xba_c (xb_v 0) xba_n))) (xw_ix (xo_v 1) (xo_v 3)) (xd_v 2).w).d (xd_v 2)))))) (xss_1 (xs_ret (xw_m 1)))))
abbrev s_ends_of : Stmt := topS 25
theorem sc_ends_of : FnScope ["counts"] ["counts"] (defScope s_ends_of) := ⟨rfl, rfl, rfl, by decide +kernel, rfl, by decide +kernel, by decide +kernel⟩
def b_ends_of : Z.Env → Option (Fl × Z.Env) := (sSeq (sDrop (eF F_check_counts (adC (eD 0) adN))) (sRet (eF F_ends_there (adC (eD 0) adN))))
def F_ends_of : List D → Option W := runF 1 1 (b_ends_of)
theorem w_ends_of {f : Addr} {fd : FuncData} (F0 : FunZ K "ends_of" s_ends_of f fd) (T : Txt mg) {fd_ends_there : FuncData} (c_ends_there : Cal P w K mg base 1 "ends_there" fd_ends_there ["counts"] (spF F_ends_there)) (b_ends_there : Binds K fd_ends_there ["counts"] []) {fd_check_counts : FuncData} (c_check_counts : Cal P w K mg base 4 "check_counts" fd_check_counts ["counts"] (spF F_check_counts)) (b_check_counts : Binds K fd_check_counts ["counts"] []) : FnG P w K mg base CX0 (4 + 1) f fd ["counts"] (spF (F_ends_of)) := by
  refine fn_G F0 sc_ends_of rfl rfl fun cdv A out s H E hr gu => ?_
  have hu := hr.units
  exact (xss_c (xs_expr (xw_fn ⟨hr, gu, (c_check_counts.up (by decide)).ex⟩ b_check_counts (xad_c (xd_v 0) xad_n))) (xss_1 (xs_ret (xw_fn ⟨hr, gu, (c_ends_there.up (by decide)).ex⟩ b_ends_there (xad_c (xd_v 0) xad_n)))))
abbrev s_first_common : Stmt := topS 26
theorem sc_first_common : FnScope ["counts", "one", "other", "mine", "found", "place"] ["counts", "one", "other"] (defScope s_first_common) := ⟨rfl, rfl, rfl, by decide +kernel, rfl, by decide +kernel, by decide +kernel⟩
def b_first_common : Z.Env → Option (Fl × Z.Env) := (sSeq (sDrop (eF F_check_start (adC (eD 0) (adC (eD 1) adN)))) (sSeq (sIf (tOr' (tNo (tD (bsc (bCB (fun ds => F_is_count (ds ++ [.int 0])) (bCs (bV 2) bN))))) (tD (bsc (bB wGe (bV 2) (bCB (c1 wLen) (bCs (bV 0) bN)))))) sNever sNx) (sSeq (sSet 3 (eF F_way_there (adC (eD 0) (adC (eD 1) adN)))) (sSeq (sSet 4 (eLc (iS (fz (eF F_way_there (adC (eD 0) (adC (eD 2) adN))))) (tgN 5) (tD (bsc (bB (wIn false) (bV 5) (bV 3)))) (eD 5) [5])) (sRet (eIf (tD (bsc (bB wNe (bV 4) (bLst bN)))) (eB wIx (eV 4) (vO (eC (.int 0)))) (sW (eC .none))))))))
def F_first_common : List D → Option W := runF 3 6 (b_first_common)
theorem w_first_common {f : Addr} {fd : FuncData} (F0 : FunZ K "first_common" s_first_common f fd) (T : Txt mg) {fd_way_there : FuncData} (c_way_there : Cal P w K mg base 1 "way_there" fd_way_there ["counts", "start"] (spF F_way_there)) (b_way_there : Binds K fd_way_there ["counts", "start"] []) {fd_is_count : FuncData} (c_is_count : Cal P w K mg base 2 "is_count" fd_is_count ["value", "least"] (spF F_is_count)) (b_is_count : Binds K fd_is_count ["value", "least"] []) {fd_check_start : FuncData} (c_check_start : Cal P w K mg base 5 "check_start" fd_check_start ["counts", "start"] (spF F_check_start)) (b_check_start : Binds K fd_check_start ["counts", "start"] []) {t_d_is_count_1 : Tok} (d_is_count_1 : Binds K fd_is_count ["value", "least"] [.int 0 t_d_is_count_1]) : FnG P w K mg base CX0 (5 + 1) f fd ["counts", "one", "other"] (spF (F_first_common)) := by
  refine fn_G F0 sc_first_common rfl rfl fun cdv A out s H E hr gu => ?_
  have hu := hr.units
  exact (xss_c (xs_expr (xw_fn ⟨hr, gu, (c_check_start.up (by decide)).ex⟩ b_check_start (xad_c (xd_v 0) (xad_c (xd_v 1) xad_n)))) (xss_c (xs_if (xt_or (xt_not (xb_fnD (dds := [.int 0]) ⟨hr, gu, (c_is_count.up (by decide)).ex⟩ d_is_count_1 vi1 (fun _ => .cons (.int 0) (.nil)) (xba_c (xb_v 2) xba_n)).d.t) (xt_or1 (xt_cmp op_geX (xb_v 2) (xb_blt len_X T.m_len (by decide +kernel) (xba_c (xb_v 0) xba_n))))).t (xss_1 xs_never) xss_n) (xss_c (xs_set 3 (xw_fn ⟨hr, gu, (c_way_there.up (by decide)).ex⟩ b_way_there (xad_c (xd_v 0) (xad_c (xd_v 1) xad_n))) sc_first_common.nd) (xss_c (xs_setLcI 4 [("place", 5)] sc_first_common.nd rfl (xi_s (xw_fn ⟨hr, gu, (c_way_there.up (by decide)).ex⟩ b_way_there (xad_c (xd_v 0) (xad_c (xd_v 2) xad_n))).d) (blkOk_by (own := [("place", 5)]) (N := ["counts", "one", "other", "mine", "found", "place"]) (sc := (defScope s_first_common)) (by decide +kernel)) (fun _ _ _ _ _ => (xg_n 5 sc_first_common.nd)) (fun _ _ _ _ _ => (xt_cmp op_inX (xb_v 5) (xb_v 3))) (fun _ _ _ _ _ => (xd_v 5)) (by decide +kernel)) (xss_1 (xs_ret (xw_if (xt_cmp (op_neX hu) (xb_v 4) (xb_lst xba_n)) (xw_ix (xo_v 4) xd_i.o) xd_n.w)))))))
abbrev s_check_starts : Stmt := topS 27
theorem sc_check_starts : FnScope ["counts", "starts"] ["counts", "starts"] (defScope s_check_starts) := ⟨rfl, rfl, rfl, by decide +kernel, rfl, by decide +kernel, by decide +kernel⟩
def b_check_starts : Z.Env → Option (Fl × Z.Env) := (sSeq (sDrop (eF F_check_counts (adC (eD 0) adN))) (sIf (tOr' (tNo (tD (bsc (bCB F_is_count (bCs (bV 1) (bCs (bC (.int 1)) bN)))))) (tD (bsc (bB wGt (bV 1) (bCB (c1 wLen) (bCs (bV 0) bN)))))) sNever sNx))
def F_check_starts : List D → Option W := runF 2 2 (b_check_starts)
theorem w_check_starts {f : Addr} {fd : FuncData} (F0 : FunZ K "check_starts" s_check_starts f fd) (T : Txt mg) {fd_is_count : FuncData} (c_is_count : Cal P w K mg base 2 "is_count" fd_is_count ["value", "least"] (spF F_is_count)) (b_is_count : Binds K fd_is_count ["value", "least"] []) {fd_check_counts : FuncData} (c_check_counts : Cal P w K mg base 4 "check_counts" fd_check_counts ["counts"] (spF F_check_counts)) (b_check_counts : Binds K fd_check_counts ["counts"] []) : FnG P w K mg base CX0 (4 + 1) f fd ["counts", "starts"] (spF (F_check_starts)) := by
  refine fn_G F0 sc_check_starts rfl rfl fun cdv A out s H E hr gu => ?_
  have hu := hr.units
  exact (xss_c (xs_expr (xw_fn ⟨hr, gu, (c_check_counts.up (by decide)).ex⟩ b_check_counts (xad_c (xd_v 0) xad_n))) (xss_1 (xs_if (xt_or (xt_not (xb_fn ⟨hr, gu, (c_is_count.up (by decide)).ex⟩ b_is_count (xba_c (xb_v 1) (xba_c xb_i xba_n))).d.t) (xt_or1 (xt_cmp op_gtX (xb_v 1) (xb_blt len_X T.m_len (by decide +kernel) (xba_c (xb_v 0) xba_n))))).t (xss_1 xs_never) xss_n)))
abbrev s_alike_share : Stmt := topS 28
theorem sc_alike_share : FnScope ["counts", "starts", "ends", "end"] ["counts", "starts"] (defScope s_alike_share) := ⟨rfl, rfl, rfl, by decide +kernel, rfl, by decide +kernel, by decide +kernel⟩
def b_alike_share : Z.Env → Option (Fl × Z.Env) := (sSeq (sDrop (eF F_check_starts (adC (eD 0) (adC (eD 1) adN)))) (sSeq (sSet 2 (eSl wSl (vO (fz (eF F_ends_there (adC (eD 0) adN)))) pN (pS (eD 1)))) (sRet (eF F_fraction (adC (fz (eCB (c1 wSum) (aC (vO (fz (eLc (iS (eD 2)) (tgN 3) tYs (fz (eCount (eV 2) (eV 3))) [3]))) aN))) (adC (fz (eB wMul (eV 1) (eV 1))) adN))))))
def F_alike_share : List D → Option W := runF 2 4 (b_alike_share)
theorem w_alike_share {f : Addr} {fd : FuncData} (F0 : FunZ K "alike_share" s_alike_share f fd) (T : Txt mg) {fd_fraction : FuncData} (c_fraction : Cal P w K mg base 1 "fraction" fd_fraction ["above", "below"] (spF F_fraction)) (b_fraction : Binds K fd_fraction ["above", "below"] []) {fd_ends_there : FuncData} (c_ends_there : Cal P w K mg base 1 "ends_there" fd_ends_there ["counts"] (spF F_ends_there)) (b_ends_there : Binds K fd_ends_there ["counts"] []) {fd_check_starts : FuncData} (c_check_starts : Cal P w K mg base 5 "check_starts" fd_check_starts ["counts", "starts"] (spF F_check_starts)) (b_check_starts : Binds K fd_check_starts ["counts", "starts"] []) : FnG P w K mg base CX0 (5 + 1) f fd ["counts", "starts"] (spF (F_alike_share)) := by
  refine fn_G F0 sc_alike_share rfl rfl fun cdv A out s H E hr gu => ?_
  have hu := hr.units
  exact (xss_c (xs_expr (xw_fn ⟨hr, gu, (c_check_starts.up (by decide)).ex⟩ b_check_starts (xad_c (xd_v 0) (xad_c (xd_v 1) xad_n)))) (xss_c (xs_set 2 (xw_sl (xw_fn ⟨hr, gu, (c_ends_there.up (by decide)).ex⟩ b_ends_there (xad_c (xd_v 0) xad_n)).d.o xp_n (xp_s (xd_v 1))) sc_alike_share.nd) (xss_1 (xs_ret (xw_fn ⟨hr, gu, (c_fraction.up (by decide)).ex⟩ b_fraction (xad_c (xw_blt (sum_X rfl) T.m_sum (by decide +kernel) (xa_c (xw_lc [("end", 3)] sc_alike_share.nd (xi_s (xd_v 2)) (blkOk_by (own := [("end", 3)]) (N := ["counts", "starts", "ends", "end"]) (sc := (defScope s_alike_share)) (by decide +kernel)) (fun _ _ _ _ _ => (xg_n 3 sc_alike_share.nd)) (fun _ _ _ _ _ => (xw_count (xo_v 2) (xo_v 3)).d)).d.o xa_n)).d (xad_c (xw_bin op_mulX (xo_v 1) (xo_v 1)).d xad_n)))))))
abbrev s_counts_of_pack : Stmt := topS 29
theorem sc_counts_of_pack : FnScope ["pack", "values", "card"] ["pack", "values"] (defScope s_counts_of_pack) := ⟨rfl, rfl, rfl, by decide +kernel, rfl, by decide +kernel, by decide +kernel⟩
def b_counts_of_pack : Z.Env → Option (Fl × Z.Env) := (sSeq (sDrop (eF F_check_pack (adC (eD 0) adN))) (sSeq (sIf (tOr' (tNo (tD (bsc (bCB F_are_counts (bCs (bV 1) bN))))) (tD (bsc (bB wEq (bV 1) (bLst bN))))) sNever sNx) (sRet (eLc (iS (eD 0)) (tgN 2) tYs (fz (eB wIx (eV 1) (vO (fz (eB wMod (eV 2) (vO (bsc (bCB (c1 wLen) (bCs (bV 1) bN))))))))) [2]))))
def F_counts_of_pack : List D → Option W := runF 2 3 (b_counts_of_pack)
theorem w_counts_of_pack {f : Addr} {fd : FuncData} (F0 : FunZ K "counts_of_pack" s_counts_of_pack f fd) (T : Txt mg) {fd_are_counts : FuncData} (c_are_counts : Cal P w K mg base 3 "are_counts" fd_are_counts ["value"] (spF F_are_counts)) (b_are_counts : Binds K fd_are_counts ["value"] []) {fd_check_pack : FuncData} (c_check_pack : Cal P w K mg base 4 "check_pack" fd_check_pack ["value"] (spF F_check_pack)) (b_check_pack : Binds K fd_check_pack ["value"] []) : FnG P w K mg base CX0 (4 + 1) f fd ["pack", "values"] (spF (F_counts_of_pack)) := by
  refine fn_G F0 sc_counts_of_pack rfl rfl fun cdv A out s H E hr gu => ?_
  have hu := hr.units
  exact (xss_c (xs_expr (xw_fn ⟨hr, gu, (c_check_pack.up (by decide)).ex⟩ b_check_pack (xad_c (xd_v 0) xad_n))) (xss_c (xs_if (xt_or (xt_not (xb_fn ⟨hr, gu, (c_are_counts.up (by decide)).ex⟩ b_are_counts (xba_c (xb_v 1) xba_n)).d.t) (xt_or1 (xt_cmp (op_eqX hu) (xb_v 1) (xb_lst xba_n)))).t (xss_1 xs_never) xss_n) (xss_1 (xs_ret (xw_lc [("card", 2)] sc_counts_of_pack.nd (xi_s (xd_v 0)) (blkOk_by (own := [("card", 2)]) (N := ["pack", "values", "card"]) (sc := (defScope s_counts_of_pack)) (by decide +kernel)) (fun _ _ _ _ _ => (xg_n 2 sc_counts_of_pack.nd)) (fun _ _ _ _ _ => (xw_ix (xo_v 1) (xw_bin op_modX (xo_v 2) (xb_blt len_X T.m_len (by decide +kernel) (xba_c (xb_v 1) xba_n)).d.o).d.o).d))))))
abbrev s_law_purse : Stmt := topS 31
theorem sc_law_purse : FnScope ["script", "at", "seed"] ["script", "at"] (defScope s_law_purse) := ⟨rfl, rfl, rfl, by decide +kernel, rfl, by decide +kernel, by decide +kernel⟩
def b_law_purse : Z.Env → Option (Fl × Z.Env) := (sSeq (sSet 2 (sW (bsc (bCB (c1 wSum) (bCs (bSl (bV 0) (bOI (bV 1)) (bOI (bB wAdd (bV 1) (bC (.int 1))))) bN))))) (sRet (eLst (adC (fz (eB wMod (vO (bsc (bCB (c1 wInt) (bCs (bCB (wMax) (bCs (bB wSub (bV 2) (bB wPow (bC (.int 10)) (bC (.int 18)))) (bCs (bC (.int 0)) bN))) bN)))) (vO (fz (eB wPow (vO (fz (eB wPow (vO (eC (.int 10))) (vO (eC (.int 60)))))) (vO (eC (.int 8)))))))) (adC (fz (eB wMod (vO (bsc (bCB (c1 wInt) (bCs (bV 2) bN)))) (vO (eC (.int 2147483629))))) (adC (eC (.int 0)) (adC (eD 1) adN)))))))
def F_law_purse : List D → Option W := runF 2 3 (b_law_purse)
theorem w_law_purse {f : Addr} {fd : FuncData} (F0 : FunZ K "_law_purse" s_law_purse f fd) (T : Txt mg)  : FnG P w K mg base CX0 (0 + 1) f fd ["script", "at"] (spF (F_law_purse)) := by
  refine fn_G F0 sc_law_purse rfl rfl fun cdv A out s H E hr gu => ?_
  have hu := hr.units
  exact (xss_c (xs_set 2 (xb_blt (sum_X rfl) T.m_sum (by decide +kernel) (xba_c (xb_sl (xb_v 0) (xbp_s (xb_v 1)) (xbp_s (xb_bin op_addX (xb_v 1) xb_i))) xba_n)).d.w sc_law_purse.nd) (xss_1 (xs_ret (xw_lst (xad_c (xw_bin op_modX (xb_bty int_X T.m_int (by decide +kernel) (xba_c (xb_blt (max_X rfl) T.m_max (by decide +kernel) (xba_c (xb_bin op_subX (xb_v 2) (xb_bin op_powX xb_i xb_i)) (xba_c xb_i xba_n))) xba_n)).d.o (xw_bin op_powX (xw_bin op_powX xd_i.o xd_i.o).d.o xd_i.o).d.o).d (xad_c (xw_bin op_modX (xb_bty int_X T.m_int (by decide +kernel) (xba_c (xb_v 2) xba_n)).d.o xd_i.o).d (xad_c xd_i (xad_c (xd_v 1) xad_n))))))))
abbrev s_law_mixed : Stmt := topS 32
theorem sc_law_mixed : FnScope ["seed", "spin", "at", "mixed"] ["seed", "spin", "at"] (defScope s_law_mixed) := ⟨rfl, rfl, rfl, by decide +kernel, rfl, by decide +kernel, by decide +kernel⟩
def b_law_mixed : Z.Env → Option (Fl × Z.Env) := (sSeq (sSet 3 (eB wAdd (vO (fz (eB wMul (eV 0) (vO (eC (.int 69069)))))) (vO (fz (eB wMul (vO (fz (eB wMul (vO (eC (.int 104729))) (eV 1)))) (eV 1)))))) (sSeq (sSet 3 (eB wMod (vO (bsc (bCB (c1 wInt) (bCs (bB wAdd (bB wAdd (bV 3) (bB wMul (bC (.int 7919)) (bV 2))) (bV 1)) bN)))) (vO (eC (.int 2147483647))))) (sSeq (sSet 3 (eB wMod (vO (bsc (bCB (c1 wInt) (bCs (bB wAdd (bB wMul (bV 3) (bV 3)) (bC (.int 40503))) bN)))) (vO (eC (.int 2147483629))))) (sRet (eB wMod (vO (bsc (bCB (c1 wInt) (bCs (bB wMul (bV 3) (bC (.int 48271))) bN)))) (vO (eC (.int 2147483587))))))))
def F_law_mixed : List D → Option W := runF 3 4 (b_law_mixed)
theorem w_law_mixed {f : Addr} {fd : FuncData} (F0 : FunZ K "_law_mixed" s_law_mixed f fd) (T : Txt mg)  : FnG P w K mg base CX0 (0 + 1) f fd ["seed", "spin", "at"] (spF (F_law_mixed)) := by
  refine fn_G F0 sc_law_mixed rfl rfl fun cdv A out s H E hr gu => ?_
  have hu := hr.units
  exact (xss_c (xs_set 3 (xw_bin op_addX (xw_bin op_mulX (xo_v 0) xd_i.o).d.o (xw_bin op_mulX (xw_bin op_mulX xd_i.o (xo_v 1)).d.o (xo_v 1)).d.o) sc_law_mixed.nd) (xss_c (xs_set 3 (xw_bin op_modX (xb_bty int_X T.m_int (by decide +kernel) (xba_c (xb_bin op_addX (xb_bin op_addX (xb_v 3) (xb_bin op_mulX xb_i (xb_v 2))) (xb_v 1)) xba_n)).d.o xd_i.o) sc_law_mixed.nd) (xss_c (xs_set 3 (xw_bin op_modX (xb_bty int_X T.m_int (by decide +kernel) (xba_c (xb_bin op_addX (xb_bin op_mulX (xb_v 3) (xb_v 3)) xb_i) xba_n)).d.o xd_i.o) sc_law_mixed.nd) (xss_1 (xs_ret (xw_bin op_modX (xb_bty int_X T.m_int (by decide +kernel) (xba_c (xb_bin op_mulX (xb_v 3) xb_i) xba_n)).d.o xd_i.o))))))
abbrev s_law_draw : Stmt := topS 33
theorem sc_law_draw : FnScope ["purse", "many", "drawn", "found", "piece"] ["purse", "many"] (defScope s_law_draw) := ⟨rfl, rfl, rfl, by decide +kernel, rfl, by decide +kernel, by decide +kernel⟩
def b_law_draw : Z.Env → Option (Fl × Z.Env) := (sSeq (sIf (tD (bsc (bB wGt (bB wIx (bV 0) (bC (.int 0))) (bC (.int 0))))) (sSeq (sSet 2 (eB wMod (vO (bsc (bCB (c1 wInt) (bCs (bB wIx (bV 0) (bC (.int 0))) bN)))) (eV 1))) (sSeq (sIx 0 (eC (.int 0)) (fz (eB wDiv (vO (fz (eB wIx (eV 0) (vO (eC (.int 0)))))) (eV 1)))) (sRet (eM 2)))) sNx) (sSeq (sSet 3 (sW (eC (.int 0)))) (sSeq (sFor (iR1 (aC (vO (fz (eB wAdd (vO (eC (.int 1))) (vO (fz (eB wDiv (vO (fz (eU wBits (eV 1)))) (vO (eC (.int 28))))))))) aN)) (tgN 4) (sWq [4] (sSeq (sIx 0 (eC (.int 2)) (fz (eB wAdd (vO (fz (eB wIx (eV 0) (vO (eC (.int 2)))))) (vO (eC (.int 1)))))) (sSet 3 (eB wAdd (vO (fz (eB wMul (eV 3) (vO (eC (.int 2147483587)))))) (vO (fz (eF F_law_mixed (adC (fz (eB wIx (eV 0) (vO (eC (.int 1))))) (adC (fz (eB wIx (eV 0) (vO (eC (.int 2))))) (adC (fz (eB wIx (eV 0) (vO (eC (.int 3))))) adN))))))))))) (sRet (eB wMod (vO (bsc (bCB (c1 wInt) (bCs (bV 3) bN)))) (eV 1))))))
def F_law_draw : List D → List D → Option (W × List D) := runU 2 5 b_law_draw
theorem w_law_draw {f : Addr} {fd : FuncData} (F0 : FunZ K "_law_draw" s_law_draw f fd) (T : Txt mg) {fd_law_mixed : FuncData} (c_law_mixed : Cal P w K mg base 1 "_law_mixed" fd_law_mixed ["seed", "spin", "at"] (spF F_law_mixed)) (b_law_mixed : Binds K fd_law_mixed ["seed", "spin", "at"] []) : FnG P w K mg base CX0 (1 + 1) f fd ["purse", "many"] (spP F_law_draw) := by
  refine fn_GP F0 sc_law_draw rfl rfl (fun p qs ds r h => runU_run h p) fun cdv A out s H E hr gu => ?_
  have hu := hr.units
  exact (xss_c (xs_if (xt_cmp op_gtX (xb_ix (xb_v 0) xb_i) xb_i) (xss_c (xs_set 2 (xw_bin op_modX (xb_bty int_X T.m_int (by decide +kernel) (xba_c (xb_ix (xb_v 0) xb_i) xba_n)).d.o (xo_v 1)) sc_law_draw.nd) (xss_c (xs_ix 0 (xw_bin op_divX (xw_ix (xo_v 0) xd_i.o).d.o (xo_v 1)).d xd_i) (xss_1 (xs_ret (xw_m 2))))) xss_n) (xss_c (xs_set 3 xd_i.w sc_law_draw.nd) (xss_c (xs_for (xi_r1 T.m_range (xa_c (xw_bin op_addX xd_i.o (xw_bin op_divX (xw_bits (xo_v 1)).d.o xd_i.o).d.o).d.o xa_n)) (xg_n 4 sc_law_draw.nd) (xss_q [4] (xss_c (xs_ix 0 (xw_bin op_addX (xw_ix (xo_v 0) xd_i.o).d.o xd_i.o).d xd_i) (xss_1 (xs_set 3 (xw_bin op_addX (xw_bin op_mulX (xo_v 3) xd_i.o).d.o (xw_fn ⟨hr, gu, (c_law_mixed.up (by decide)).ex⟩ b_law_mixed (xad_c (xw_ix (xo_v 0) xd_i.o).d (xad_c (xw_ix (xo_v 0) xd_i.o).d (xad_c (xw_ix (xo_v 0) xd_i.o).d xad_n)))).d.o) sc_law_draw.nd))))) (xss_1 (xs_ret (xw_bin op_modX (xb_bty int_X T.m_int (by decide +kernel) (xba_c (xb_v 3) xba_n)).d.o (xo_v 1)))))))
abbrev s_law_purses : Stmt := topS 34
theorem sc_law_purses : FnScope ["script", "few", "at"] ["script", "few"] (defScope s_law_purses) := ⟨rfl, rfl, rfl, by decide +kernel, rfl, by decide +kernel, by decide +kernel⟩
def b_law_purses : Z.Env → Option (Fl × Z.Env) := (sRet (eLcN (iR1 (aC (vO (bsc (bCB (wMax) (bCs (bC (.int 1)) (bCs (bCB (wMin) (bCs (bV 1) (bCs (bCB (c1 wLen) (bCs (bV 0) bN)) bN))) bN))))) aN)) (tgN 2) (eF F_law_purse (adC (eD 0) (adC (eD 2) adN))) [2]))
def F_law_purses : List D → Option W := runF 2 3 (b_law_purses)
theorem w_law_purses {f : Addr} {fd : FuncData} (F0 : FunZ K "_law_purses" s_law_purses f fd) (T : Txt mg) {fd_law_purse : FuncData} (c_law_purse : Cal P w K mg base 1 "_law_purse" fd_law_purse ["script", "at"] (spF F_law_purse)) (b_law_purse : Binds K fd_law_purse ["script", "at"] []) : FnG P w K mg base CX0 (1 + 1) f fd ["script", "few"] (spF (F_law_purses)) := by
  refine fn_G F0 sc_law_purses rfl rfl fun cdv A out s H E hr gu => ?_
  have hu := hr.units
  exact (xss_1 (xs_ret (xw_lcN [("at", 2)] sc_law_purses.nd (xi_r1 T.m_range (xa_c (xb_blt (max_X rfl) T.m_max (by decide +kernel) (xba_c xb_i (xba_c (xb_blt (min_X rfl) T.m_min (by decide +kernel) (xba_c (xb_v 1) (xba_c (xb_blt len_X T.m_len (by decide +kernel) (xba_c (xb_v 0) xba_n)) xba_n))) xba_n))).d.o xa_n)) (blkOk_by (own := [("at", 2)]) (N := ["script", "few", "at"]) (sc := (defScope s_law_purses)) (by decide +kernel)) (fun _ _ _ _ _ => (xg_n 2 sc_law_purses.nd)) (fun _ _ _ _ _ => (xw_fn ⟨hr, gu, (c_law_purse.up (by decide)).ex⟩ b_law_purse (xad_c (xd_v 0) (xad_c (xd_v 2) xad_n)))))))
abbrev s_law_one_of : Stmt := topS 35
theorem sc_law_one_of : FnScope ["purse", "some"] ["purse", "some"] (defScope s_law_one_of) := ⟨rfl, rfl, rfl, by decide +kernel, rfl, by decide +kernel, by decide +kernel⟩
def b_law_one_of : Z.Env → Option (Fl × Z.Env) := (sRet (eB wIx (eV 1) (vO (fz (eP 0 F_law_draw (adC (bsc (bCB (c1 wLen) (bCs (bV 1) bN))) adN))))))
def F_law_one_of : List D → List D → Option (W × List D) := runU 2 2 b_law_one_of
theorem w_law_one_of {f : Addr} {fd : FuncData} (F0 : FunZ K "_law_one_of" s_law_one_of f fd) (T : Txt mg) {fd_law_draw : FuncData} (c_law_draw : Cal P w K mg base 2 "_law_draw" fd_law_draw ["purse", "many"] (spP F_law_draw)) (b_law_draw : Binds K fd_law_draw ["purse", "many"] []) : FnG P w K mg base CX0 (2 + 1) f fd ["purse", "some"] (spP F_law_one_of) := by
  refine fn_GP F0 sc_law_one_of rfl rfl (fun p qs ds r h => runU_run h p) fun cdv A out s H E hr gu => ?_
  have hu := hr.units
  exact (xss_1 (xs_ret (xw_ix (xo_v 1) (xw_fnP 0 ⟨hr, gu, (c_law_draw.up (by decide)).ex⟩ b_law_draw (xad_c (xb_blt len_X T.m_len (by decide +kernel) (xba_c (xb_v 1) xba_n)).d xad_n)).d.o)))
abbrev s_law_shuffled : Stmt := topS 36
theorem sc_law_shuffled : FnScope ["purse", "some", "found", "item"] ["purse", "some"] (defScope s_law_shuffled) := ⟨rfl, rfl, rfl, by decide +kernel, rfl, by decide +kernel, by decide +kernel⟩
def b_law_shuffled : Z.Env → Option (Fl × Z.Env) := (sSeq (sSet 2 (eLst adN)) (sSeq (sFor (iS (eD 1)) (tgN 3) (sWq [3] (sDrop (eIns 2 (fz (eP 0 F_law_draw (adC (fz (eB wAdd (vO (bsc (bCB (c1 wLen) (bCs (bV 2) bN)))) (vO (eC (.int 1))))) adN))) (eD 3))))) (sRet (eM 2))))
def F_law_shuffled : List D → List D → Option (W × List D) := runU 2 4 b_law_shuffled
theorem w_law_shuffled {f : Addr} {fd : FuncData} (F0 : FunZ K "_law_shuffled" s_law_shuffled f fd) (T : Txt mg) {fd_law_draw : FuncData} (c_law_draw : Cal P w K mg base 2 "_law_draw" fd_law_draw ["purse", "many"] (spP F_law_draw)) (b_law_draw : Binds K fd_law_draw ["purse", "many"] []) : FnG P w K mg base CX0 (2 + 1) f fd ["purse", "some"] (spP F_law_shuffled) := by
  refine fn_GP F0 sc_law_shuffled rfl rfl (fun p qs ds r h => runU_run h p) fun cdv A out s H E hr gu => ?_
  have hu := hr.units
  exact (xss_c (xs_set 2 (xw_lst xad_n) sc_law_shuffled.nd) (xss_c (xs_for (xi_s (xd_v 1)) (xg_n 3 sc_law_shuffled.nd) (xss_q [3] (xss_1 (xs_expr (xw_ins 2 (xw_fnP 0 ⟨hr, gu, (c_law_draw.up (by decide)).ex⟩ b_law_draw (xad_c (xw_bin op_addX (xb_blt len_X T.m_len (by decide +kernel) (xba_c (xb_v 2) xba_n)).d.o xd_i.o).d xad_n)).d (xd_v 3)))))) (xss_1 (xs_ret (xw_m 2)))))
abbrev s_law_exact : Stmt := topS 37
theorem sc_law_exact : FnScope ["mine", "theirs", "is_list", "is_like", "a", "b"] ["mine", "theirs"] (defScope s_law_exact) := ⟨rfl, rfl, rfl, by decide +kernel, rfl, by decide +kernel, by decide +kernel⟩
def b_law_exact (F : List D → Option W) : Z.Env → Option (Fl × Z.Env) := (sSeq (sIf (tD (bsc (bU (wTy fun d => [isList, isTuple].any fun p => p d) (bV 0)))) (sSeq (sSet 2 (sW (bsc (bB wEq (bU (wTy isList) (bV 1)) (bU (wTy isList) (bV 0)))))) (sSeq (sSet 3 (sW (bsc (bAn (bV 2) (bB wEq (bU (wTy isTuple) (bV 1)) (bU (wTy isTuple) (bV 0))))))) (sRet (sW (eAn (eD 3) (eAn (bsc (bB wEq (bCB (c1 wLen) (bCs (bV 0) bN)) (bCB (c1 wLen) (bCs (bV 1) bN)))) (fz (eCB (c1 wAll) (aC (vO (fz (eLc (iZ (eD 0) (eD 1)) (tgU 2 (tgC (tgN 4) (tgC (tgN 5) tgZ))) tYs (bsc (bCB F (bCs (bV 4) (bCs (bV 5) bN)))) [4, 5]))) aN))))))))) sNx) (sSeq (sIf (tOr' (tD (bsc (bU (wTy fun d => [isList, isTuple].any fun p => p d) (bV 1)))) (tD (bsc (bB wNe (bB wIsN (bV 0) (bC .none)) (bB wIsN (bV 1) (bC .none)))))) (sRet (sW (eC (.bool false)))) sNx) (sSeq (sSet 3 (sW (bsc (bAn (bB wEq (bU (wTy isInt) (bV 0)) (bU (wTy isInt) (bV 1))) (bB wEq (bU (wTy isStr) (bV 0)) (bU (wTy isStr) (bV 1))))))) (sRet (sW (bsc (bAn (bV 3) (bAn (bB wEq (bU (wTy isBool) (bV 0)) (bU (wTy isBool) (bV 1))) (bB wEq (bV 0) (bV 1))))))))))
def R_law_exact (F : List D → Option W) : List D → Option W := runF 2 6 (b_law_exact F)
def I_law_exact : Nat → List D → Option W
  | 0 => fun _ => none
  | k + 1 => R_law_exact (I_law_exact k)
def F_law_exact : List D → Option W := I_law_exact 8
theorem w_law_exact {f : Addr} {fd : FuncData} {F : List D → Option W} {k : Nat} (F0 : FunZ K "_law_exact" s_law_exact f fd) (T : Txt mg) {fd_law_exact : FuncData} (c_law_exact : Cal P w K mg base k "_law_exact" fd_law_exact ["mine", "theirs"] (spF F)) (b_law_exact : Binds K fd_law_exact ["mine", "theirs"] []) : FnG P w K mg base CX0 (k + 1) f fd ["mine", "theirs"] (spF (R_law_exact F)) := by
  refine fn_G F0 sc_law_exact rfl rfl fun cdv A out s H E hr gu => ?_
  have hu := hr.units
  exact (xss_c (xs_if (xb_isiT (.cons ty_list (.cons ty_tuple .nil)) T.m_isinstance (.cons T.m_list (by decide +kernel) (.cons T.m_tuple (by decide +kernel) .nil)) (xb_v 0)).d.t (xss_c (xs_set 2 (xb_cmp (op_eqX hu) (xb_isi ty_list T.m_isinstance T.m_list (by decide +kernel) (xb_v 1) ) (xb_isi ty_list T.m_isinstance T.m_list (by decide +kernel) (xb_v 0) )).d.w sc_law_exact.nd) (xss_c (xs_set 3 (xb_and (xb_v 2) (xb_one (xb_cmp (op_eqX hu) (xb_isi ty_tuple T.m_isinstance T.m_tuple (by decide +kernel) (xb_v 1) ) (xb_isi ty_tuple T.m_isinstance T.m_tuple (by decide +kernel) (xb_v 0) )))).d.w sc_law_exact.nd) (xss_1 (xs_ret (xd_and (xd_v 3) (xd_and (xb_cmp (op_eqX hu) (xb_blt len_X T.m_len (by decide +kernel) (xba_c (xb_v 0) xba_n)) (xb_blt len_X T.m_len (by decide +kernel) (xba_c (xb_v 1) xba_n))).d (xd_one (xw_blt (all_X rfl) T.m_all (by decide +kernel) (xa_c (xw_lc [("a", 4), ("b", 5)] sc_law_exact.nd (xi_zip T.m_zip (xd_v 0) (xd_v 1)) (blkOk_by (own := [("a", 4), ("b", 5)]) (N := ["mine", "theirs", "is_list", "is_like", "a", "b"]) (sc := (defScope s_law_exact)) (by decide +kernel)) (fun _ _ _ _ _ => (xg_t (xgs_c (xg_n 4 sc_law_exact.nd) (xgs_c (xg_n 5 sc_law_exact.nd) xgs_n)))) (fun _ _ _ _ _ => (xb_fn ⟨hr, gu, (c_law_exact.up (Nat.le_refl _)).ex⟩ b_law_exact (xba_c (xb_v 4) (xba_c (xb_v 5) xba_n))).d)).d.o xa_n)).d))).w)))) xss_n) (xss_c (xs_if (xt_or (xb_isiT (.cons ty_list (.cons ty_tuple .nil)) T.m_isinstance (.cons T.m_list (by decide +kernel) (.cons T.m_tuple (by decide +kernel) .nil)) (xb_v 1)).d.t (xt_or1 (xt_cmp (op_neX hu) (xb_cmp op_isX (xb_v 0) xb_n) (xb_cmp op_isX (xb_v 1) xb_n)))).t (xss_1 (xs_ret xd_b.w)) xss_n) (xss_c (xs_set 3 (xb_and (xb_cmp (op_eqX hu) (xb_isi ty_int T.m_isinstance T.m_int (by decide +kernel) (xb_v 0) ) (xb_isi ty_int T.m_isinstance T.m_int (by decide +kernel) (xb_v 1) )) (xb_one (xb_cmp (op_eqX hu) (xb_isi ty_str T.m_isinstance T.m_str (by decide +kernel) (xb_v 0) ) (xb_isi ty_str T.m_isinstance T.m_str (by decide +kernel) (xb_v 1) )))).d.w sc_law_exact.nd) (xss_1 (xs_ret (xb_and (xb_v 3) (xb_and (xb_cmp (op_eqX hu) (xb_isi ty_bool T.m_isinstance T.m_bool (by decide +kernel) (xb_v 0) ) (xb_isi ty_bool T.m_isinstance T.m_bool (by decide +kernel) (xb_v 1) )) (xb_one (xb_cmp (op_eqX hu) (xb_v 0) (xb_v 1))))).d.w)))))
abbrev s_law_way : Stmt := topS 38
theorem sc_law_way : FnScope ["counts", "start", "found", "place"] ["counts", "start"] (defScope s_law_way) := ⟨rfl, rfl, rfl, by decide +kernel, rfl, by decide +kernel, by decide +kernel⟩
def b_law_way : Z.Env → Option (Fl × Z.Env) := (sSeq (sParN 2 3 (nC (eLst adN) (nC (sW (eD 1)) nN))) (sSeq (wLoop (tD (bsc (bB wLt (bV 3) (bCB (c1 wLen) (bCs (bV 0) bN))))) (sSeq (sDrop (eApp 2 (eD 3))) (sSet 3 (eB wAdd (eV 3) (vO (fz (eB wIx (eV 0) (eV 3))))))) fuel) (sRet (eM 2))))
def F_law_way : List D → Option W := runF 2 4 (b_law_way)
theorem w_law_way {f : Addr} {fd : FuncData} (F0 : FunZ K "_law_way" s_law_way f fd) (T : Txt mg)  : FnG P w K mg base CX0 (0 + 1) f fd ["counts", "start"] (spF (F_law_way)) := by
  refine fn_G F0 sc_law_way rfl rfl fun cdv A out s H E hr gu => ?_
  have hu := hr.units
  exact (xss_c (xs_parN 2 3 (xn_c (xw_lst xad_n) (xn_c (xd_v 1).w xn_n)) sc_law_way.nd) (xss_c (xs_while fuel (xt_cmp op_ltX (xb_v 3) (xb_blt len_X T.m_len (by decide +kernel) (xba_c (xb_v 0) xba_n))) (xss_c (xs_expr (xw_app 2 (xd_v 3))) (xss_1 (xs_set 3 (xw_bin op_addX (xo_v 3) (xw_ix (xo_v 0) (xo_v 3)).d.o) sc_law_way.nd)))) (xss_1 (xs_ret (xw_m 2)))))
abbrev s_law_counts : Stmt := topS 39
theorem sc_law_counts : FnScope ["purse", "most", "wide", "place"] ["purse", "most"] (defScope s_law_counts) := ⟨rfl, rfl, rfl, by decide +kernel, rfl, by decide +kernel, by decide +kernel⟩
def b_law_counts : Z.Env → Option (Fl × Z.Env) := (sSeq (sSet 2 (eP 0 F_law_one_of (adC (fz (eLst (adC (eC (.int 2)) (adC (eC (.int 3)) (adC (eC (.int 5)) (adC (eC (.int 10)) (adC (fz (eB wPow (vO (eC (.int 10))) (vO (eC (.int 12))))) adN))))))) adN))) (sRet (eLc (iR1 (aC (vO (fz (eB wAdd (vO (eC (.int 1))) (vO (fz (eP 0 F_law_draw (adC (eD 1) adN))))))) aN)) (tgN 3) tYs (fz (eB wAdd (vO (eC (.int 1))) (vO (fz (eP 0 F_law_draw (adC (eD 2) adN)))))) [3])))
def F_law_counts : List D → List D → Option (W × List D) := runU 2 4 b_law_counts
theorem w_law_counts {f : Addr} {fd : FuncData} (F0 : FunZ K "_law_counts" s_law_counts f fd) (T : Txt mg) {fd_law_draw : FuncData} (c_law_draw : Cal P w K mg base 2 "_law_draw" fd_law_draw ["purse", "many"] (spP F_law_draw)) (b_law_draw : Binds K fd_law_draw ["purse", "many"] []) {fd_law_one_of : FuncData} (c_law_one_of : Cal P w K mg base 3 "_law_one_of" fd_law_one_of ["purse", "some"] (spP F_law_one_of)) (b_law_one_of : Binds K fd_law_one_of ["purse", "some"] []) : FnG P w K mg base CX0 (3 + 1) f fd ["purse", "most"] (spP F_law_counts) := by
  refine fn_GP F0 sc_law_counts rfl rfl (fun p qs ds r h => runU_run h p) fun cdv A out s H E hr gu => ?_
  have hu := hr.units
  exact (xss_c (xs_set 2 (xw_fnP 0 ⟨hr, gu, (c_law_one_of.up (by decide)).ex⟩ b_law_one_of (xad_c (xw_lst (xad_c xd_i (xad_c xd_i (xad_c xd_i (xad_c xd_i (xad_c (xw_bin op_powX xd_i.o xd_i.o).d xad_n)))))).d xad_n)) sc_law_counts.nd) (xss_1 (xs_ret (xw_lc [("place", 3)] sc_law_counts.nd (xi_r1 T.m_range (xa_c (xw_bin op_addX xd_i.o (xw_fnP 0 ⟨hr, gu, (c_law_draw.up (by decide)).ex⟩ b_law_draw (xad_c (xd_v 1) xad_n)).d.o).d.o xa_n)) (blkOk_by (own := [("place", 3)]) (N := ["purse", "most", "wide", "place"]) (sc := (defScope s_law_counts)) (by decide +kernel)) (fun _ _ _ _ _ => (xg_n 3 sc_law_counts.nd)) (fun _ _ _ _ _ => (xw_bin op_addX xd_i.o (xw_fnP 0 ⟨hr, gu, (c_law_draw.up (by decide)).ex⟩ b_law_draw (xad_c (xd_v 2) xad_n)).d.o).d)))))
abbrev s_law_part : Stmt := topS 40
theorem sc_law_part : FnScope ["above", "below", "one", "other"] ["above", "below"] (defScope s_law_part) := ⟨rfl, rfl, rfl, by decide +kernel, rfl, by decide +kernel, by decide +kernel⟩
def b_law_part : Z.Env → Option (Fl × Z.Env) := (sSeq (sPar 2 3 (adC (eD 0) (adC (eD 1) adN))) (sSeq (wLoop (tD (bsc (bB wGt (bV 3) (bC (.int 0))))) (sPar 2 3 (adC (eD 3) (adC (fz (eB wMod (eV 2) (eV 3))) adN))) fuel) (sRet (eTup (adC (fz (eB wDiv (eV 0) (eV 2))) (adC (fz (eB wDiv (eV 1) (eV 2))) adN))))))
def F_law_part : List D → Option W := runF 2 4 (b_law_part)
theorem w_law_part {f : Addr} {fd : FuncData} (F0 : FunZ K "_law_part" s_law_part f fd) (T : Txt mg)  : FnG P w K mg base CX0 (0 + 1) f fd ["above", "below"] (spF (F_law_part)) := by
  refine fn_G F0 sc_law_part rfl rfl fun cdv A out s H E hr gu => ?_
  have hu := hr.units
  exact (xss_c (xs_par 2 3 (xad_c (xd_v 0) (xad_c (xd_v 1) xad_n)) sc_law_part.nd) (xss_c (xs_while fuel (xt_cmp op_gtX (xb_v 3) xb_i) (xss_1 (xs_par 2 3 (xad_c (xd_v 3) (xad_c (xw_bin op_modX (xo_v 2) (xo_v 3)).d xad_n)) sc_law_part.nd))) (xss_1 (xs_ret (xw_tup (xad_c (xw_bin op_divX (xo_v 0) (xo_v 2)).d (xad_c (xw_bin op_divX (xo_v 1) (xo_v 2)).d xad_n)))))))
abbrev s_law_case_right : Stmt := topS 41
theorem sc_law_case_right : FnScope ["purse", "counts", "kept", "many", "one", "other", "starts", "ways", "ends", "common", "alike", "end", "due", "told", "named", "place", "way"] ["purse"] (defScope s_law_case_right) := ⟨rfl, rfl, rfl, by decide +kernel, rfl, by decide +kernel, by decide +kernel⟩
def b_law_case_right : Z.Env → Option (Fl × Z.Env) := (sSeq (sSet 1 (eP 0 F_law_counts (adC (eC (.int 40)) adN))) (sSeq (sPar 2 3 (adC (bsc (bCB (c1 wRepr) (bCs (bV 1) bN))) (adC (bsc (bCB (c1 wLen) (bCs (bV 1) bN))) adN))) (sSeq (sAsg (tgU 3 (tgC (tgN 4) (tgC (tgN 5) (tgC (tgN 6) tgZ)))) (fz (eTup (adC (fz (eP 0 F_law_draw (adC (eD 3) adN))) (adC (fz (eP 0 F_law_draw (adC (eD 3) adN))) (adC (fz (eB wAdd (vO (eC (.int 1))) (vO (fz (eP 0 F_law_draw (adC (eD 3) adN)))))) adN)))))) (sSeq (sSet 7 (eLc (iR1 (aC (eV 3) aN)) (tgN 15) tYs (fz (eF F_law_way (adC (eD 1) (adC (eD 15) adN)))) [15])) (sSeq (sSet 8 (eLc (iS (eD 7)) (tgN 16) tYs (fz (eB wIx (eV 16) (vO (fz (eU wNeg (vO (eC (.int 1)))))))) [16])) (sSeq (sSet 9 (eLc (iS (fz (eB wIx (eV 7) (eV 4)))) (tgN 15) (tD (bsc (bB (wIn false) (bV 15) (bB wIx (bV 7) (bV 5))))) (eD 15) [15])) (sSeq (sSet 10 (sW (eC (.int 0)))) (sSeq (sFor (iS (fz (eSl wSl (eV 8) pN (pS (eD 6))))) (tgN 11) (sWq [11] (sSet 10 (eB wAdd (eV 10) (vO (fz (eCount (vO (fz (eSl wSl (eV 8) pN (pS (eD 6))))) (eV 11)))))))) (sSeq (sSet 12 (eLst (adC (fz (eB wIx (eV 7) (eV 4))) (adC (eD 8) (adC (fz (eIf (tD (bsc (bB wNe (bV 9) (bLst bN)))) (eB wIx (eV 9) (vO (eC (.int 0)))) (sW (eC .none)))) (adC (fz (eF F_law_part (adC (eD 10) (adC (fz (eB wMul (eV 6) (eV 6))) adN)))) adN)))))) (sSeq (sSet 13 (eNest (nC (eF F_way_from (adC (eD 1) (adC (eD 4) adN))) (nC (eF F_ends_of (adC (eD 1) adN)) (nC (eF F_first_common (adC (eD 1) (adC (eD 4) (adC (eD 5) adN)))) (nC (eF F_alike_share (adC (eD 1) (adC (eD 6) adN))) nN)))))) (sSeq (sSet 14 (eLst (adC (fz (eFK F_way_from 2 [1, 0] (adC (eD 4) (adC (eD 1) adN)))) (adC (fz (eFK F_ends_of 1 [0] (adC (eD 1) adN))) adN)))) (sSeq (sSet 14 (eB wAdd (eV 14) (vO (fz (eLst (adC (fz (eFK F_first_common 3 [2, 1, 0] (adC (eD 5) (adC (eD 4) (adC (eD 1) adN))))) adN)))))) (sSeq (sDrop (eApp 14 (fz (eFK F_alike_share 2 [1, 0] (adC (eD 6) (adC (eD 1) adN)))))) (sSeq (sIf (tOr' (tNo (tD (bsc (bCB F_law_exact (bCs (bLst (bCs (bV 12) (bCs (bV 12) bN))) (bCs (bLst (bCs (bV 13) (bCs (bV 14) bN))) bN)))))) (tD (bsc (bB wNe (bB wIsN (bB wIx (bV 12) (bC (.int 2))) (bC .none)) (bB wNe (bB wIx (bV 8) (bV 4)) (bB wIx (bV 8) (bV 5))))))) (sRet (sW (eC (.bool false)))) sNx) (sSeq (sDrop (eAppK 13 0 (.str "more"))) (sSeq (sDrop (eAppK 13 1 (.str "more"))) (sRet (sW (bsc (bAn (bCB F_law_exact (bCs (bSl (bV 12) bON (bOI (bC (.int 2)))) (bCs (bLst (bCs (bCB F_way_from (bCs (bV 1) (bCs (bV 4) bN))) (bCs (bCB F_ends_of (bCs (bV 1) bN)) bN))) bN))) (bB wEq (bCB (c1 wRepr) (bCs (bV 1) bN)) (bV 2))))))))))))))))))))))
def F_law_case_right : List D → List D → Option (W × List D) := runU 1 17 b_law_case_right
theorem w_law_case_right {f : Addr} {fd : FuncData} (F0 : FunZ K "_law_case_right" s_law_case_right f fd) (T : Txt mg) {fd_ends_of : FuncData} (c_ends_of : Cal P w K mg base 5 "ends_of" fd_ends_of ["counts"] (spF F_ends_of)) (b_ends_of : Binds K fd_ends_of ["counts"] []) {fd_way_from : FuncData} (c_way_from : Cal P w K mg base 6 "way_from" fd_way_from ["counts", "start"] (spF F_way_from)) (b_way_from : Binds K fd_way_from ["counts", "start"] []) {fd_law_exact : FuncData} (c_law_exact : Cal P w K mg base 8 "_law_exact" fd_law_exact ["mine", "theirs"] (spF F_law_exact)) (b_law_exact : Binds K fd_law_exact ["mine", "theirs"] []) {fd_alike_share : FuncData} (c_alike_share : Cal P w K mg base 6 "alike_share" fd_alike_share ["counts", "starts"] (spF F_alike_share)) (b_alike_share : Binds K fd_alike_share ["counts", "starts"] []) {fd_first_common : FuncData} (c_first_common : Cal P w K mg base 6 "first_common" fd_first_common ["counts", "one", "other"] (spF F_first_common)) (b_first_common : Binds K fd_first_common ["counts", "one", "other"] []) {fd_law_part : FuncData} (c_law_part : Cal P w K mg base 1 "_law_part" fd_law_part ["above", "below"] (spF F_law_part)) (b_law_part : Binds K fd_law_part ["above", "below"] []) {fd_law_way : FuncData} (c_law_way : Cal P w K mg base 1 "_law_way" fd_law_way ["counts", "start"] (spF F_law_way)) (b_law_way : Binds K fd_law_way ["counts", "start"] []) {fd_law_draw : FuncData} (c_law_draw : Cal P w K mg base 2 "_law_draw" fd_law_draw ["purse", "many"] (spP F_law_draw)) (b_law_draw : Binds K fd_law_draw ["purse", "many"] []) {fd_law_counts : FuncData} (c_law_counts : Cal P w K mg base 4 "_law_counts" fd_law_counts ["purse", "most"] (spP F_law_counts)) (b_law_counts : Binds K fd_law_counts ["purse", "most"] []) (k_alike_share_10 : KwOk K fd_alike_share ["counts", "starts"] ["starts", "counts"] [1, 0]) (k_first_common_210 : KwOk K fd_first_common ["counts", "one", "other"] ["other", "one", "counts"] [2, 1, 0]) (k_ends_of_0 : KwOk K fd_ends_of ["counts"] ["counts"] [0]) (k_way_from_10 : KwOk K fd_way_from ["counts", "start"] ["start", "counts"] [1, 0]) : FnG P w K mg base CX0 (8 + 1) f fd ["purse"] (spP F_law_case_right) := by
  refine fn_GP F0 sc_law_case_right rfl rfl (fun p qs ds r h => runU_run h p) fun cdv A out s H E hr gu => ?_
  have hu := hr.units
  exact (xss_c (xs_set 1 (xw_fnP 0 ⟨hr, gu, (c_law_counts.up (by decide)).ex⟩ b_law_counts (xad_c xd_i xad_n)) sc_law_case_right.nd) (xss_c (xs_par 2 3 (xad_c (xb_blt (repr_X hu gu) T.m_repr (by decide +kernel) (xba_c (xb_v 1) xba_n)).d (xad_c (xb_blt len_X T.m_len (by decide +kernel) (xba_c (xb_v 1) xba_n)).d xad_n)) sc_law_case_right.nd) (xss_c (xs_asg (xw_tup (xad_c (xw_fnP 0 ⟨hr, gu, (c_law_draw.up (by decide)).ex⟩ b_law_draw (xad_c (xd_v 3) xad_n)).d (xad_c (xw_fnP 0 ⟨hr, gu, (c_law_draw.up (by decide)).ex⟩ b_law_draw (xad_c (xd_v 3) xad_n)).d (xad_c (xw_bin op_addX xd_i.o (xw_fnP 0 ⟨hr, gu, (c_law_draw.up (by decide)).ex⟩ b_law_draw (xad_c (xd_v 3) xad_n)).d.o).d xad_n)))).d (xg_t (xgs_c (xg_n 4 sc_law_case_right.nd) (xgs_c (xg_n 5 sc_law_case_right.nd) (xgs_c (xg_n 6 sc_law_case_right.nd) xgs_n))))) (xss_c (xs_set 7 (xw_lc [("place", 15)] sc_law_case_right.nd (xi_r1 T.m_range (xa_c (xo_v 3) xa_n)) (blkOk_by (own := [("place", 15)]) (N := ["purse", "counts", "kept", "many", "one", "other", "starts", "ways", "ends", "common", "alike", "end", "due", "told", "named", "place", "way"]) (sc := (defScope s_law_case_right)) (by decide +kernel)) (fun _ _ _ _ _ => (xg_n 15 sc_law_case_right.nd)) (fun _ _ _ _ _ => (xw_fn ⟨hr, gu, (c_law_way.up (by decide)).ex⟩ b_law_way (xad_c (xd_v 1) (xad_c (xd_v 15) xad_n))).d)) sc_law_case_right.nd) (xss_c (xs_setLc 8 [("way", 16)] sc_law_case_right.nd rfl (xi_s (xd_v 7)) (blkOk_by (own := [("way", 16)]) (N := ["purse", "counts", "kept", "many", "one", "other", "starts", "ways", "ends", "common", "alike", "end", "due", "told", "named", "place", "way"]) (sc := (defScope s_law_case_right)) (by decide +kernel)) (fun _ _ _ _ _ => (xg_n 16 sc_law_case_right.nd)) (fun _ _ _ _ _ => (xw_ix (xo_v 16) (xw_un un_negX xd_i.o).d.o).d) (by decide +kernel)) (xss_c (xs_setLcI 9 [("place", 15)] sc_law_case_right.nd rfl (xi_s (xw_ix (xo_v 7) (xo_v 4)).d) (blkOk_by (own := [("place", 15)]) (N := ["purse", "counts", "kept", "many", "one", "other", "starts", "ways", "ends", "common", "alike", "end", "due", "told", "named", "place", "way"]) (sc := (defScope s_law_case_right)) (by decide +kernel)) (fun _ _ _ _ _ => (xg_n 15 sc_law_case_right.nd)) (fun _ _ _ _ _ => (xt_cmp op_inX (xb_v 15) (xb_ix (xb_v 7) (xb_v 5)))) (fun _ _ _ _ _ => (xd_v 15)) (by decide +kernel)) (xss_c (xs_set 10 xd_i.w sc_law_case_right.nd) (xss_c (xs_for (xi_s (xw_sl (xo_v 8) xp_n (xp_s (xd_v 6))).d) (xg_n 11 sc_law_case_right.nd) (xss_q [11] (xss_1 (xs_set 10 (xw_bin op_addX (xo_v 10) (xw_count (xw_sl (xo_v 8) xp_n (xp_s (xd_v 6))).d.o (xo_v 11)).d.o) sc_law_case_right.nd)))) (xss_c (xs_set 12 (xw_lst (xad_c (xw_ix (xo_v 7) (xo_v 4)).d (xad_c (xd_v 8) (xad_c (xw_if (xt_cmp (op_neX hu) (xb_v 9) (xb_lst xba_n)) (xw_ix (xo_v 9) xd_i.o) xd_n.w).d (xad_c (xw_fn ⟨hr, gu, (c_law_part.up (by decide)).ex⟩ b_law_part (xad_c (xd_v 10) (xad_c (xw_bin op_mulX (xo_v 6) (xo_v 6)).d xad_n))).d xad_n))))) sc_law_case_right.nd) (xss_c (xs_set 13 (xw_nest (xn_c (xw_fn ⟨hr, gu, (c_way_from.up (by decide)).ex⟩ b_way_from (xad_c (xd_v 1) (xad_c (xd_v 4) xad_n))) (xn_c (xw_fn ⟨hr, gu, (c_ends_of.up (by decide)).ex⟩ b_ends_of (xad_c (xd_v 1) xad_n)) (xn_c (xw_fn ⟨hr, gu, (c_first_common.up (by decide)).ex⟩ b_first_common (xad_c (xd_v 1) (xad_c (xd_v 4) (xad_c (xd_v 5) xad_n)))) (xn_c (xw_fn ⟨hr, gu, (c_alike_share.up (by decide)).ex⟩ b_alike_share (xad_c (xd_v 1) (xad_c (xd_v 6) xad_n))) xn_n))))) sc_law_case_right.nd) (xss_c (xs_set 14 (xw_lst (xad_c (xw_fnK ⟨hr, gu, (c_way_from.up (by decide)).ex⟩ k_way_from_10 (xk_c (xd_v 4) (xk_c (xd_v 1) xk_n))).d (xad_c (xw_fnK ⟨hr, gu, (c_ends_of.up (by decide)).ex⟩ k_ends_of_0 (xk_c (xd_v 1) xk_n)).d xad_n))) sc_law_case_right.nd) (xss_c (xs_set 14 (xw_bin op_addX (xo_v 14) (xw_lst (xad_c (xw_fnK ⟨hr, gu, (c_first_common.up (by decide)).ex⟩ k_first_common_210 (xk_c (xd_v 5) (xk_c (xd_v 4) (xk_c (xd_v 1) xk_n)))).d xad_n)).d.o) sc_law_case_right.nd) (xss_c (xs_expr (xw_app 14 (xw_fnK ⟨hr, gu, (c_alike_share.up (by decide)).ex⟩ k_alike_share_10 (xk_c (xd_v 6) (xk_c (xd_v 1) xk_n))).d)) (xss_c (xs_if (xt_or (xt_not (xb_fn ⟨hr, gu, (c_law_exact.up (by decide)).ex⟩ b_law_exact (xba_c (xb_lst (xba_c (xb_v 12) (xba_c (xb_v 12) xba_n))) (xba_c (xb_lst (xba_c (xb_v 13) (xba_c (xb_v 14) xba_n))) xba_n))).d.t) (xt_or1 (xt_cmp (op_neX hu) (xb_cmp op_isX (xb_ix (xb_v 12) xb_i) xb_n) (xb_cmp (op_neX hu) (xb_ix (xb_v 8) (xb_v 4)) (xb_ix (xb_v 8) (xb_v 5)))))).t (xss_1 (xs_ret xd_b.w)) xss_n) (xss_c (xs_expr (xw_appK (kk := 0) 13)) (xss_c (xs_expr (xw_appK (kk := 1) 13)) (xss_1 (xs_ret (xb_and (xb_fn ⟨hr, gu, (c_law_exact.up (by decide)).ex⟩ b_law_exact (xba_c (xb_sl (xb_v 12) xbp_n (xbp_s xb_i)) (xba_c (xb_lst (xba_c (xb_fn ⟨hr, gu, (c_way_from.up (by decide)).ex⟩ b_way_from (xba_c (xb_v 1) (xba_c (xb_v 4) xba_n))) (xba_c (xb_fn ⟨hr, gu, (c_ends_of.up (by decide)).ex⟩ b_ends_of (xba_c (xb_v 1) xba_n)) xba_n))) xba_n))) (xb_one (xb_cmp (op_eqX hu) (xb_blt (repr_X hu gu) T.m_repr (by decide +kernel) (xba_c (xb_v 1) xba_n)) (xb_v 2)))).d.w))))))))))))))))))
abbrev s_law_pack_right : Stmt := topS 42
theorem sc_law_pack_right : FnScope ["purse", "values", "pack", "kept", "due", "told", "rank", "card"] ["purse"] (defScope s_law_pack_right) := ⟨rfl, rfl, rfl, by decide +kernel, rfl, by decide +kernel, by decide +kernel⟩
def b_law_pack_right : Z.Env → Option (Fl × Z.Env) := (sSeq (sSet 1 (eLc (iR1 (aC (vO (fz (eB wAdd (vO (eC (.int 1))) (vO (fz (eP 0 F_law_draw (adC (eC (.int 13)) adN))))))) aN)) (tgN 6) tYs (fz (eB wAdd (vO (eC (.int 1))) (vO (fz (eP 0 F_law_draw (adC (eC (.int 12)) adN)))))) [6])) (sSeq (sSet 2 (eSl wSl (vO (fz (eP 0 F_law_shuffled (adC (fz (eLR (eC (.int 60)))) adN)))) pN (pS (fz (eP 0 F_law_draw (adC (eC (.int 30)) adN)))))) (sSeq (sParN 3 4 (nC (sW (bsc (bCB (c1 wRepr) (bCs (bLst (bCs (bV 2) (bCs (bV 1) bN))) bN)))) (nC (eLc (iS (eD 2)) (tgN 7) tYs (fz (eB wIx (eV 1) (vO (fz (eB wMod (eV 7) (vO (bsc (bCB (c1 wLen) (bCs (bV 1) bN))))))))) [7]) nN))) (sSeq (sSet 5 (eNest (nC (eF F_counts_of_pack (adC (eD 2) (adC (eD 1) adN))) (nC (eFK F_counts_of_pack 2 [1, 0] (adC (eD 1) (adC (eD 2) adN))) nN)))) (sSeq (sIf (tNo (tD (bsc (bCB F_law_exact (bCs (bLst (bCs (bV 4) (bCs (bV 4) bN))) (bCs (bV 5) bN)))))) (sRet (sW (eC (.bool false)))) sNx) (sSeq (sDrop (eAppK 5 0 (.str "more"))) (sRet (sW (bsc (bAn (bCB F_law_exact (bCs (bV 4) (bCs (bCB F_counts_of_pack (bCs (bV 2) (bCs (bV 1) bN))) bN))) (bB wEq (bCB (c1 wRepr) (bCs (bLst (bCs (bV 2) (bCs (bV 1) bN))) bN)) (bV 3))))))))))))
def F_law_pack_right : List D → List D → Option (W × List D) := runU 1 8 b_law_pack_right
theorem w_law_pack_right {f : Addr} {fd : FuncData} (F0 : FunZ K "_law_pack_right" s_law_pack_right f fd) (T : Txt mg) {fd_counts_of_pack : FuncData} (c_counts_of_pack : Cal P w K mg base 5 "counts_of_pack" fd_counts_of_pack ["pack", "values"] (spF F_counts_of_pack)) (b_counts_of_pack : Binds K fd_counts_of_pack ["pack", "values"] []) {fd_law_exact : FuncData} (c_law_exact : Cal P w K mg base 8 "_law_exact" fd_law_exact ["mine", "theirs"] (spF F_law_exact)) (b_law_exact : Binds K fd_law_exact ["mine", "theirs"] []) {fd_law_shuffled : FuncData} (c_law_shuffled : Cal P w K mg base 3 "_law_shuffled" fd_law_shuffled ["purse", "some"] (spP F_law_shuffled)) (b_law_shuffled : Binds K fd_law_shuffled ["purse", "some"] []) {fd_law_draw : FuncData} (c_law_draw : Cal P w K mg base 2 "_law_draw" fd_law_draw ["purse", "many"] (spP F_law_draw)) (b_law_draw : Binds K fd_law_draw ["purse", "many"] []) (k_counts_of_pack_10 : KwOk K fd_counts_of_pack ["pack", "values"] ["values", "pack"] [1, 0]) : FnG P w K mg base CX0 (8 + 1) f fd ["purse"] (spP F_law_pack_right) := by
  refine fn_GP F0 sc_law_pack_right rfl rfl (fun p qs ds r h => runU_run h p) fun cdv A out s H E hr gu => ?_
  have hu := hr.units
  exact (xss_c (xs_set 1 (xw_lc [("rank", 6)] sc_law_pack_right.nd (xi_r1 T.m_range (xa_c (xw_bin op_addX xd_i.o (xw_fnP 0 ⟨hr, gu, (c_law_draw.up (by decide)).ex⟩ b_law_draw (xad_c xd_i xad_n)).d.o).d.o xa_n)) (blkOk_by (own := [("rank", 6)]) (N := ["purse", "values", "pack", "kept", "due", "told", "rank", "card"]) (sc := (defScope s_law_pack_right)) (by decide +kernel)) (fun _ _ _ _ _ => (xg_n 6 sc_law_pack_right.nd)) (fun _ _ _ _ _ => (xw_bin op_addX xd_i.o (xw_fnP 0 ⟨hr, gu, (c_law_draw.up (by decide)).ex⟩ b_law_draw (xad_c xd_i xad_n)).d.o).d)) sc_law_pack_right.nd) (xss_c (xs_set 2 (xw_sl (xw_fnP 0 ⟨hr, gu, (c_law_shuffled.up (by decide)).ex⟩ b_law_shuffled (xad_c (xw_listR T.m_list T.m_range xd_i).d xad_n)).d.o xp_n (xp_s (xw_fnP 0 ⟨hr, gu, (c_law_draw.up (by decide)).ex⟩ b_law_draw (xad_c xd_i xad_n)).d)) sc_law_pack_right.nd) (xss_c (xs_parN 3 4 (xn_c (xb_blt (repr_X hu gu) T.m_repr (by decide +kernel) (xba_c (xb_lst (xba_c (xb_v 2) (xba_c (xb_v 1) xba_n))) xba_n)).d.w (xn_c (xw_lc [("card", 7)] sc_law_pack_right.nd (xi_s (xd_v 2)) (blkOk_by (own := [("card", 7)]) (N := ["purse", "values", "pack", "kept", "due", "told", "rank", "card"]) (sc := (defScope s_law_pack_right)) (by decide +kernel)) (fun _ _ _ _ _ => (xg_n 7 sc_law_pack_right.nd)) (fun _ _ _ _ _ => (xw_ix (xo_v 1) (xw_bin op_modX (xo_v 7) (xb_blt len_X T.m_len (by decide +kernel) (xba_c (xb_v 1) xba_n)).d.o).d.o).d)) xn_n)) sc_law_pack_right.nd) (xss_c (xs_set 5 (xw_nest (xn_c (xw_fn ⟨hr, gu, (c_counts_of_pack.up (by decide)).ex⟩ b_counts_of_pack (xad_c (xd_v 2) (xad_c (xd_v 1) xad_n))) (xn_c (xw_fnK ⟨hr, gu, (c_counts_of_pack.up (by decide)).ex⟩ k_counts_of_pack_10 (xk_c (xd_v 1) (xk_c (xd_v 2) xk_n))) xn_n))) sc_law_pack_right.nd) (xss_c (xs_if (xt_not (xb_fn ⟨hr, gu, (c_law_exact.up (by decide)).ex⟩ b_law_exact (xba_c (xb_lst (xba_c (xb_v 4) (xba_c (xb_v 4) xba_n))) (xba_c (xb_v 5) xba_n))).d.t) (xss_1 (xs_ret xd_b.w)) xss_n) (xss_c (xs_expr (xw_appK (kk := 0) 5)) (xss_1 (xs_ret (xb_and (xb_fn ⟨hr, gu, (c_law_exact.up (by decide)).ex⟩ b_law_exact (xba_c (xb_v 4) (xba_c (xb_fn ⟨hr, gu, (c_counts_of_pack.up (by decide)).ex⟩ b_counts_of_pack (xba_c (xb_v 2) (xba_c (xb_v 1) xba_n))) xba_n))) (xb_one (xb_cmp (op_eqX hu) (xb_blt (repr_X hu gu) T.m_repr (by decide +kernel) (xba_c (xb_lst (xba_c (xb_v 2) (xba_c (xb_v 1) xba_n))) xba_n)) (xb_v 3)))).d.w))))))))
abbrev s_law : Stmt := topS 43
theorem sc_law : FnScope ["script", "purse", "spin", "counts", "told", "due"] ["script"] (defScope s_law) := ⟨rfl, rfl, rfl, by decide +kernel, rfl, by decide +kernel, by decide +kernel⟩
def b_law : Z.Env → Option (Fl × Z.Env) := (sSeq (sForP (eF F_law_purses (adC (eD 0) (adC (eC (.int 3)) adN))) 1 (sWq [1, 2] (sFor (iR1 (aC (vO (eC (.int 2))) aN)) (tgN 2) (sWq [2] (sIf (tOr' (tNo (tD (fz (eP 1 F_law_case_right adN)))) (tNo (tD (fz (eP 1 F_law_pack_right adN))))) (sRet (sW (eC (.bool false)))) sNx)))) [1, 2]) (sSeq (sSet 3 (eLst (adC (eC (.int 2)) (adC (eC (.int 1)) (adC (eC (.int 3)) (adC (eC (.int 1)) (adC (eC (.int 1)) (adC (eC (.int 2)) adN)))))))) (sSeq (sSet 4 (eLst (adC (fz (eF F_way_from (adC (eD 3) (adC (eC (.int 0)) adN)))) (adC (fz (eF F_ends_of (adC (eD 3) adN))) (adC (fz (eF F_first_common (adC (eD 3) (adC (eC (.int 0)) (adC (eC (.int 1)) adN))))) adN))))) (sSeq (sSet 4 (eB wAdd (eV 4) (vO (fz (eLst (adC (fz (eF F_alike_share (adC (eD 3) (adC (eC (.int 4)) adN)))) (adC (fz (eF F_counts_of_pack (adC (fz (eLst (adC (eC (.int 0)) (adC (eC (.int 5)) (adC (eC (.int 14)) adN))))) (adC (fz (eLst (adC (eC (.int 1)) (adC (eC (.int 2)) (adC (eC (.int 3)) adN))))) adN)))) adN))))))) (sSeq (sSet 4 (eB wAdd (eV 4) (vO (fz (eLst (adC (fz (eF F_first_common (adC (fz (eLst (adC (eC (.int 2)) (adC (eC (.int 2)) adN)))) (adC (eC (.int 0)) (adC (eC (.int 1)) adN))))) (adC (fz (eF F_alike_share (adC (fz (eLst (adC (eC (.int 2)) (adC (eC (.int 2)) (adC (eC (.int 1)) (adC (eC (.int 1)) adN)))))) (adC (eC (.int 2)) adN)))) (adC (fz (eF F_ends_of (adC (fz (eLst adN)) adN))) adN)))))))) (sSeq (sSet 4 (eB wAdd (eV 4) (vO (fz (eLst (adC (fz (eF F_counts_of_pack (adC (fz (eLst adN)) (adC (fz (eLst (adC (eC (.int 4)) adN))) adN)))) (adC (fz (eF F_way_from (adC (fz (eLst (adC (fz (eB wPow (vO (eC (.int 10))) (vO (eC (.int 11))))) adN))) (adC (eC (.int 0)) adN)))) adN))))))) (sSeq (sSet 5 (eLst (adC (fz (eLst (adC (eC (.int 0)) (adC (eC (.int 2)) (adC (eC (.int 5)) adN))))) (adC (fz (eLst (adC (eC (.int 5)) (adC (eC (.int 5)) (adC (eC (.int 5)) (adC (eC (.int 5)) (adC (eC (.int 5)) (adC (eC (.int 5)) adN)))))))) (adC (eC (.int 2)) (adC (fz (eTup (adC (eC (.int 1)) (adC (eC (.int 1)) adN)))) (adC (fz (eLst (adC (eC (.int 1)) (adC (eC (.int 3)) (adC (eC (.int 3)) adN))))) (adC (eC .none) (adC (fz (eTup (adC (eC (.int 1)) (adC (eC (.int 1)) adN)))) (adC (fz (eLst adN)) (adC (fz (eLst adN)) (adC (fz (eLst (adC (eC (.int 0)) adN))) adN)))))))))))) (sRet (sW (bsc (bAn (bCB F_law_exact (bCs (bV 5) (bCs (bV 4) bN))) (bCB F_law_exact (bCs (bLst (bCs (bTup (bCs (bC (.int 1)) (bCs (bC (.int 2)) bN))) (bCs (bTup (bCs (bC (.int 5)) (bCs (bC (.int 9)) bN))) bN))) (bCs (bLst (bCs (bCB F_alike_share (bCs (bLst (bCs (bC (.int 2)) (bCs (bC (.int 2)) bN))) (bCs (bC (.int 2)) bN))) (bCs (bCB F_alike_share (bCs (bLst (bCs (bC (.int 2)) (bCs (bC (.int 2)) (bCs (bC (.int 1)) bN)))) (bCs (bC (.int 3)) bN))) bN))) bN))))))))))))))
def F_law : List D → Option W := runF 1 6 (b_law)
theorem w_law {f : Addr} {fd : FuncData} (F0 : FunZ K "law" s_law f fd) (T : Txt mg) {fd_law_exact : FuncData} (c_law_exact : Cal P w K mg base 8 "_law_exact" fd_law_exact ["mine", "theirs"] (spF F_law_exact)) (b_law_exact : Binds K fd_law_exact ["mine", "theirs"] []) {fd_alike_share : FuncData} (c_alike_share : Cal P w K mg base 6 "alike_share" fd_alike_share ["counts", "starts"] (spF F_alike_share)) (b_alike_share : Binds K fd_alike_share ["counts", "starts"] []) {fd_way_from : FuncData} (c_way_from : Cal P w K mg base 6 "way_from" fd_way_from ["counts", "start"] (spF F_way_from)) (b_way_from : Binds K fd_way_from ["counts", "start"] []) {fd_counts_of_pack : FuncData} (c_counts_of_pack : Cal P w K mg base 5 "counts_of_pack" fd_counts_of_pack ["pack", "values"] (spF F_counts_of_pack)) (b_counts_of_pack : Binds K fd_counts_of_pack ["pack", "values"] []) {fd_ends_of : FuncData} (c_ends_of : Cal P w K mg base 5 "ends_of" fd_ends_of ["counts"] (spF F_ends_of)) (b_ends_of : Binds K fd_ends_of ["counts"] []) {fd_first_common : FuncData} (c_first_common : Cal P w K mg base 6 "first_common" fd_first_common ["counts", "one", "other"] (spF F_first_common)) (b_first_common : Binds K fd_first_common ["counts", "one", "other"] []) {fd_law_case_right : FuncData} (c_law_case_right : Cal P w K mg base 9 "_law_case_right" fd_law_case_right ["purse"] (spP F_law_case_right)) (b_law_case_right : Binds K fd_law_case_right ["purse"] []) {fd_law_pack_right : FuncData} (c_law_pack_right : Cal P w K mg base 9 "_law_pack_right" fd_law_pack_right ["purse"] (spP F_law_pack_right)) (b_law_pack_right : Binds K fd_law_pack_right ["purse"] []) {fd_law_purses : FuncData} (c_law_purses : Cal P w K mg base 2 "_law_purses" fd_law_purses ["script", "few"] (spF F_law_purses)) (b_law_purses : Binds K fd_law_purses ["script", "few"] []) : FnG P w K mg base CX0 (9 + 1) f fd ["script"] (spF (F_law)) := by
  refine fn_G F0 sc_law rfl rfl fun cdv A out s H E hr gu => ?_
  have hu := hr.units
  exact (xss_c (xs_forP [1, 2] 1 (xw_fn ⟨hr, gu, (c_law_purses.up (by decide)).ex⟩ b_law_purses (xad_c (xd_v 0) (xad_c xd_i xad_n))) sc_law.nd (xss_q [1, 2] (xss_1 (xs_for (xi_r1 T.m_range (xa_c xd_i.o xa_n)) (xg_n 2 sc_law.nd) (xss_q [2] (xss_1 (xs_if (xt_or (xt_not (xw_fnP 1 ⟨hr, gu, (c_law_case_right.up (by decide)).ex⟩ b_law_case_right xad_n).d.t) (xt_or1 (xt_not (xw_fnP 1 ⟨hr, gu, (c_law_pack_right.up (by decide)).ex⟩ b_law_pack_right xad_n).d.t))).t (xss_1 (xs_ret xd_b.w)) xss_n))))))) (xss_c (xs_set 3 (xw_lst (xad_c xd_i (xad_c xd_i (xad_c xd_i (xad_c xd_i (xad_c xd_i (xad_c xd_i xad_n))))))) sc_law.nd) (xss_c (xs_set 4 (xw_lst (xad_c (xw_fn ⟨hr, gu, (c_way_from.up (by decide)).ex⟩ b_way_from (xad_c (xd_v 3) (xad_c xd_i xad_n))).d (xad_c (xw_fn ⟨hr, gu, (c_ends_of.up (by decide)).ex⟩ b_ends_of (xad_c (xd_v 3) xad_n)).d (xad_c (xw_fn ⟨hr, gu, (c_first_common.up (by decide)).ex⟩ b_first_common (xad_c (xd_v 3) (xad_c xd_i (xad_c xd_i xad_n)))).d xad_n)))) sc_law.nd) (xss_c (xs_set 4 (xw_bin op_addX (xo_v 4) (xw_lst (xad_c (xw_fn ⟨hr, gu, (c_alike_share.up (by decide)).ex⟩ b_alike_share (xad_c (xd_v 3) (xad_c xd_i xad_n))).d (xad_c (xw_fn ⟨hr, gu, (c_counts_of_pack.up (by decide)).ex⟩ b_counts_of_pack (xad_c (xw_lst (xad_c xd_i (xad_c xd_i (xad_c xd_i xad_n)))).d (xad_c (xw_lst (xad_c xd_i (xad_c xd_i (xad_c xd_i xad_n)))).d xad_n))).d xad_n))).d.o) sc_law.nd) (xss_c (xs_set 4 (xw_bin op_addX (xo_v 4) (xw_lst (xad_c (xw_fn ⟨hr, gu, (c_first_common.up (by decide)).ex⟩ b_first_common (xad_c (xw_lst (xad_c xd_i (xad_c xd_i xad_n))).d (xad_c xd_i (xad_c xd_i xad_n)))).d (xad_c (xw_fn ⟨hr, gu, (c_alike_share.up (by decide)).ex⟩ b_alike_share (xad_c (xw_lst (xad_c xd_i (xad_c xd_i (xad_c xd_i (xad_c xd_i xad_n))))).d (xad_c xd_i xad_n))).d (xad_c (xw_fn ⟨hr, gu, (c_ends_of.up (by decide)).ex⟩ b_ends_of (xad_c (xw_lst xad_n).d xad_n)).d xad_n)))).d.o) sc_law.nd) (xss_c (xs_set 4 (xw_bin op_addX (xo_v 4) (xw_lst (xad_c (xw_fn ⟨hr, gu, (c_counts_of_pack.up (by decide)).ex⟩ b_counts_of_pack (xad_c (xw_lst xad_n).d (xad_c (xw_lst (xad_c xd_i xad_n)).d xad_n))).d (xad_c (xw_fn ⟨hr, gu, (c_way_from.up (by decide)).ex⟩ b_way_from (xad_c (xw_lst (xad_c (xw_bin op_powX xd_i.o xd_i.o).d xad_n)).d (xad_c xd_i xad_n))).d xad_n))).d.o) sc_law.nd) (xss_c (xs_set 5 (xw_lst (xad_c (xw_lst (xad_c xd_i (xad_c xd_i (xad_c xd_i xad_n)))).d (xad_c (xw_lst (xad_c xd_i (xad_c xd_i (xad_c xd_i (xad_c xd_i (xad_c xd_i (xad_c xd_i xad_n))))))).d (xad_c xd_i (xad_c (xw_tup (xad_c xd_i (xad_c xd_i xad_n))).d (xad_c (xw_lst (xad_c xd_i (xad_c xd_i (xad_c xd_i xad_n)))).d (xad_c xd_n (xad_c (xw_tup (xad_c xd_i (xad_c xd_i xad_n))).d (xad_c (xw_lst xad_n).d (xad_c (xw_lst xad_n).d (xad_c (xw_lst (xad_c xd_i xad_n)).d xad_n))))))))))) sc_law.nd) (xss_1 (xs_ret (xb_and (xb_fn ⟨hr, gu, (c_law_exact.up (by decide)).ex⟩ b_law_exact (xba_c (xb_v 5) (xba_c (xb_v 4) xba_n))) (xb_one (xb_fn ⟨hr, gu, (c_law_exact.up (by decide)).ex⟩ b_law_exact (xba_c (xb_lst (xba_c (xb_tup (xba_c xb_i (xba_c xb_i xba_n))) (xba_c (xb_tup (xba_c xb_i (xba_c xb_i xba_n))) xba_n))) (xba_c (xb_lst (xba_c (xb_fn ⟨hr, gu, (c_alike_share.up (by decide)).ex⟩ b_alike_share (xba_c (xb_lst (xba_c xb_i (xba_c xb_i xba_n))) (xba_c xb_i xba_n))) (xba_c (xb_fn ⟨hr, gu, (c_alike_share.up (by decide)).ex⟩ b_alike_share (xba_c (xb_lst (xba_c xb_i (xba_c xb_i (xba_c xb_i xba_n)))) (xba_c xb_i xba_n))) xba_n))) xba_n))))).d.w)))))))))
end
end Law

set_option Elab.async false
set_option linter.all false
set_option maxRecDepth 100000
set_option maxHeartbeats 4000000
namespace Law
open PySem PySem.Spec PyProof.Rows L2 Z
theorem is_whole_i (n : Int) : F_is_whole [.int n] = some (.sh (.bool true)) := by
  simp [F_is_whole, b_is_whole, runF]
theorem is_count_i (n l : Int) : F_is_count [.int n, .int l] = some (.sh (.bool (decide (max l 0 ≤ n)))) := by
  simp [F_is_count, b_is_count, runF, is_whole_i]
/-- the numbers that are drawn -/
def mix (a s t : Int) : Int := ((((a * 69069 + 104729 * s * s + 7919 * t + s) % 2147483647) * ((a * 69069 + 104729 * s * s + 7919 * t + s) % 2147483647) + 40503) % 2147483629 * 48271) % 2147483587
theorem lg {a : Int} {k : Nat} (hk : 0 < k) (h : a.natAbs < 2 ^ k) : a.natAbs.log2 < k := log2_lt hk h
theorem mixed_i (a s t : Int) (ha : 0 ≤ a ∧ a < 2147483629) (hs : 0 ≤ s ∧ s < 2 ^ 100) (ht : 0 ≤ t ∧ t < 1000) : F_law_mixed [.int a, .int s, .int t] = some (.sh (.int (mix a s t))) := by
  have b1 : a.natAbs.log2 < 32 := lg (by decide) (by omega)
  have b2 : s.natAbs.log2 < 100 := lg (by decide) (by omega)
  have b3 : t.natAbs.log2 < 10 := lg (by decide) (by omega)
  have c1 : (69069 : Int).natAbs.log2 = 16 := by decide +kernel
  have c2 : (104729 : Int).natAbs.log2 = 16 := by decide +kernel
  have c3 : (7919 : Int).natAbs.log2 = 12 := by decide +kernel
  have c4 : (48271 : Int).natAbs.log2 = 15 := by decide +kernel
  have m1 : wMul (.int a) (.int 69069) = some (.sh (.int (a * 69069))) := wMul_ii _ _ (by omega)
  have m2 : wMul (.int 104729) (.int s) = some (.sh (.int (104729 * s))) := wMul_ii _ _ (by omega)
  have b4 : (104729 * s).natAbs.log2 < 200 := lg (by decide) (by omega)
  have m3 : wMul (.int (104729 * s)) (.int s) = some (.sh (.int (104729 * s * s))) := wMul_ii _ _ (by omega)
  have m4 : wMul (.int 7919) (.int t) = some (.sh (.int (7919 * t))) := wMul_ii _ _ (by omega)
  have m5 : ∀ x : Int, wMod (.int x) (.int 2147483647) = some (.sh (.int (x % 2147483647))) := fun x => wMod_ii _ _ (by decide)
  have m6 : ∀ x : Int, wMod (.int x) (.int 2147483629) = some (.sh (.int (x % 2147483629))) := fun x => wMod_ii _ _ (by decide)
  have m7 : ∀ x : Int, wMod (.int x) (.int 2147483587) = some (.sh (.int (x % 2147483587))) := fun x => wMod_ii _ _ (by decide)
  have m8 : ∀ x : Int, wMul (.int (x % 2147483647)) (.int (x % 2147483647)) = some (.sh (.int (x % 2147483647 * (x % 2147483647)))) := fun x => wMul_ii _ _ (by
    have : (x % 2147483647).natAbs.log2 < 32 := lg (by decide) (by omega)
    omega)
  have m9 : ∀ x : Int, wMul (.int (x % 2147483629)) (.int 48271) = some (.sh (.int (x % 2147483629 * 48271))) := fun x => wMul_ii _ _ (by
    have : (x % 2147483629).natAbs.log2 < 32 := lg (by decide) (by omega)
    omega)
  simp [F_law_mixed, b_law_mixed, runF, m1, m2, m3, m4, m5, m6, m7, m8, m9, mix]
end Law

set_option Elab.async false
set_option linter.all false
set_option maxRecDepth 100000
set_option maxHeartbeats 4000000
namespace Law
open PySem PySem.Spec PyProof.Rows L2 Z
/-- a purse from which M more draws may be made -/
def POk (M : Nat) (ps : List D) : Prop := ∃ a b c t : Int, ps = [.int a, .int b, .int c, .int t] ∧ 0 ≤ a ∧ 0 ≤ b ∧ b < 2147483629 ∧ 0 ≤ c ∧ c + 64 * M ≤ 1000000000000 ∧ 0 ≤ t ∧ t < 1000
theorem POk.less {M N : Nat} {ps : List D} (h : POk N ps) (k : M ≤ N) : POk M ps := by
  obtain ⟨a, b, c, t, h1, h2, h3, h4, h5, h6, h7, h8⟩ := h
  exact ⟨a, b, c, t, h1, h2, h3, h4, h5, by omega, h7, h8⟩
@[simp] theorem ix4_0 (a b c d : D) : wIx (.list [a, b, c, d]) (.int 0) = some (.sh a) := nrfl rfl
@[simp] theorem ix4_1 (a b c d : D) : wIx (.list [a, b, c, d]) (.int 1) = some (.sh b) := nrfl rfl
@[simp] theorem ix4_2 (a b c d : D) : wIx (.list [a, b, c, d]) (.int 2) = some (.sh c) := nrfl rfl
@[simp] theorem ix4_3 (a b c d : D) : wIx (.list [a, b, c, d]) (.int 3) = some (.sh d) := nrfl rfl
@[simp] theorem ixN4_0 : ixN 4 0 = some 0 := nrfl rfl
@[simp] theorem ixN4_2' : ixN (0 + 1 + 1 + 1 + 1) 2 = some 2 := nrfl rfl
@[simp] theorem ixN4_2 : ixN 4 2 = some 2 := nrfl rfl
theorem mix_b (a s t : Int) : 0 ≤ mix a s t ∧ mix a s t < 2147483587 := ⟨Int.emod_nonneg _ (by decide), Int.emod_lt_of_pos _ (by decide)⟩
theorem pow_step (k f x : Nat) (hf : f < 2 ^ (32 * k)) (hx : x < 2147483587) : f * 2147483587 + x < 2 ^ (32 * (k + 1)) := by
  have e : 2 ^ (32 * (k + 1)) = 2 ^ (32 * k) * 4294967296 := by rw [show 32 * (k + 1) = 32 * k + 32 by omega, Nat.pow_add]
  rw [e]
  generalize 2 ^ (32 * k) = z at *
  omega
def dr (b c t : Int) : Nat → Nat
  | 0 => 0
  | k + 1 => dr b c t k * 2147483587 + (mix b (c + (k : Int) + 1) t).toNat
theorem dr_lt (b c t : Int) : ∀ k : Nat, dr b c t k < 2 ^ (32 * k)
  | 0 => by simp [dr]
  | k + 1 => pow_step k _ _ (dr_lt b c t k) (by have := mix_b b (c + (k : Int) + 1) t; omega)
theorem bits_log {m : Int} (hm : 1 ≤ m) : Builtin.Int.intBits m = m.natAbs.log2 + 1 := by
  have h : (m == 0) = false := by simp; omega
  simp [Builtin.Int.intBits, h]
theorem draw_i {M : Nat} {ps : List D} (m : Int) (hm : 1 ≤ m) (hz : Builtin.Int.intBits m ≤ 1000) (h : POk (M + 1) ps) : ∃ r ps', F_law_draw ps [.int m] = some (.sh (.int r), ps') ∧ 0 ≤ r ∧ r < m ∧ POk M ps' := by
  obtain ⟨a, b, c, t, rfl, h2, h3, h4, h5, h6, h7, h8⟩ := h
  have hl : m.natAbs.log2 < 9000 := by
    have := bits_log hm
    omega
  by_cases ha : 0 < a
  · refine ⟨a % m, [.int (a / m), .int b, .int c, .int t], runU_eq fun p => ?_, Int.emod_nonneg _ (by omega), Int.emod_lt_of_pos _ (by omega), a / m, b, c, t, rfl, Int.ediv_nonneg h2 (by omega), h3, h4, h5, by omega, h7, h8⟩
    simp [runP, b_law_draw, ha, wMod_ii _ m (by omega), wDiv_ii _ m (by omega) hl]
  · have w1 : wDiv (.int (Builtin.Int.intBits m : Nat)) (.int 28) = some (.sh (.int ((Builtin.Int.intBits m / 28 : Nat) : Int))) := by
      rw [wDiv_ii _ _ (by decide) (by decide +kernel)]; rfl
    have w2 : wBits (.int m) = some (.sh (.int (Builtin.Int.intBits m : Nat))) := rfl
    generalize hn : Builtin.Int.intBits m / 28 = n at w1
    have hn2 : n ≤ 36 := by omega
    have w3 : rngI [.int (1 + (n : Int))] = some (rng 0 (n + 1)) := by
      show (if inR (1 + (n : Int)) = true then some (rng 0 (1 + (n : Int)).toNat) else none) = _
      rw [if_pos (inR_iff.mpr ⟨by omega, by omega⟩), show (1 + (n : Int)).toNat = n + 1 by omega]
    have key : ∀ p : Addr, ∃ env', fLoop (tgN 4) (sWq [4] (sSeq (sIx 0 (eC (.int 2)) (fz (eB wAdd (vO (fz (eB wIx (eV 0) (vO (eC (.int 2)))))) (vO (eC (.int 1)))))) (sSet 3 (eB wAdd (vO (fz (eB wMul (eV 3) (vO (eC (.int 2147483587)))))) (vO (fz (eF F_law_mixed (adC (fz (eB wIx (eV 0) (vO (eC (.int 1))))) (adC (fz (eB wIx (eV 0) (vO (eC (.int 2))))) (adC (fz (eB wIx (eV 0) (vO (eC (.int 3))))) adN))))))))))
        (rng 0 (n + 1)) [.pu p [.int a, .int b, .int c, .int t], .sh (.int m), .emp, .sh (.int 0), .emp] = some (.nx, env') ∧ env' = [.pu p [.int a, .int b, .int (c + ((0 + (rng 0 (n + 1)).length : Nat) : Int)), .int t], .sh (.int m), .emp, .sh (.int (dr b c t (0 + (rng 0 (n + 1)).length))), .emp] := fun p => by
      refine fLoop_inv (fun k env => env = [.pu p [.int a, .int b, .int (c + (k : Int)), .int t], .sh (.int m), .emp, .sh (.int (dr b c t k)), .emp]) (by simp [dr]) fun i d env hd hi => ?_
      subst hi
      obtain ⟨hi, rfl⟩ := rng_get hd
      generalize hk : 0 + i = k
      obtain ⟨m1, m2⟩ := mix_b b (c + (k : Int) + 1) t
      have w4 : F_law_mixed [.int b, .int (c + (k : Int) + 1), .int t] = some (.sh (.int (mix b (c + (k : Int) + 1) t))) := mixed_i _ _ _ ⟨h3, h4⟩ ⟨by omega, by omega⟩ ⟨h7, h8⟩
      have w5 : wMul (.int (dr b c t k : Int)) (.int 2147483587) = some (.sh (.int ((dr b c t k : Int) * 2147483587))) := wMul_ii _ _ (by
        have e1 : (dr b c t k).log2 < 1300 := log2_lt (by decide) (Nat.lt_of_lt_of_le (dr_lt b c t k) (Nat.pow_le_pow_right (by decide) (by omega)))
        have e2 : (2147483587 : Int).natAbs.log2 = 30 := by decide +kernel
        rw [Int.natAbs_natCast, e2]
        omega)
      have w6 : wAdd (.int (c + (k : Int))) (.int 1) = some (.sh (.int (c + (k : Int) + 1))) := rfl
      have w7 : wAdd (.int ((dr b c t k : Int) * 2147483587)) (.int (mix b (c + (k : Int) + 1) t)) = some (.sh (.int (dr b c t (k + 1) : Int))) := by
        rw [wAdd_ii, dr, Int.natCast_add, Int.natCast_mul, Int.toNat_of_nonneg m1]; rfl
      refine ⟨_, _, rfl, ?_, rfl⟩
      rw [show c + ((k + 1 : Nat) : Int) = c + (k : Int) + 1 by omega]
      simp only [tgN_e, sWq_e, sSeq_e, sIx_e, fz_e, eB_e, vO_e, eV_e, eC_e, sSet_e, eF_e, adC_e, adN_e, get_zero, get_succ, put_zero, put_succ, wF_pu, wF_sh, bo_some, bd_some, look_slot, look_val, ix4_0, ix4_1, ix4_2, ix4_3, wD_sh, w6, w7, lstW_pu, intOf_int, ixN4_2', List.length_cons, List.length_nil, setW_pu, List.set_cons_succ, List.set_cons_zero, sq_nx, w5, w4, wp_cons, wp_nil]
    generalize hN : 0 + (rng 0 (n + 1)).length = N at key
    have hN2 : N ≤ 37 := by rw [← hN, rng_len]; omega
    refine ⟨(dr b c t N : Int) % m, [.int a, .int b, .int (c + (N : Int)), .int t], runU_eq fun p => ?_, Int.emod_nonneg _ (by omega), Int.emod_lt_of_pos _ (by omega), a, b, _, t, rfl, h2, h3, h4, by omega, by omega, h7, h8⟩
    obtain ⟨env', k1, rfl⟩ := key p
    simp [runP, b_law_draw, ha, w1, w2, w3, k1, wMod_ii _ m (by omega)]
end Law

set_option Elab.async false
set_option linter.all false
set_option maxRecDepth 100000
set_option maxHeartbeats 4000000
namespace Law
open PySem PySem.Spec PyProof.Rows L2 Z
theorem draw_n {M : Nat} {ps : List D} (m : Int) (hm : 1 ≤ m) (hz : m < 1000000000000000000) (h : POk (M + 1) ps) : ∃ r ps', F_law_draw ps [.int m] = some (.sh (.int r), ps') ∧ 0 ≤ r ∧ r < m ∧ POk M ps' :=
  draw_i m hm (Nat.le_trans (bits_small 60 (by decide) hm (by omega)) (by decide)) h
theorem purse_i {M : Nat} (hM : M ≤ 1000000000) (ns : List Int) (t : Int) (ht : 0 ≤ t ∧ t < 1000) : ∃ ps, F_law_purse [scr ns, .int t] = some (.ow ps) ∧ POk M ps := by
  have p1 : wPow (.int 10) (.int 18) = some (.sh (.int 1000000000000000000)) := by rw [wPow_ii _ _ (by decide +kernel)]; rfl
  obtain ⟨x, p2, hx⟩ : ∃ x : Int, wPow (.int 10) (.int 60) = some (.sh (.int x)) ∧ x = 10 ^ 60 := ⟨10 ^ 60, by rw [wPow_ii _ _ (by decide +kernel)]; rfl, rfl⟩
  obtain ⟨big, p3, hb0⟩ : ∃ y : Int, wPow (.int x) (.int 8) = some (.sh (.int y)) ∧ 0 < y := ⟨x ^ 8, by rw [wPow_ii _ _ (by rw [hx]; decide +kernel)]; rfl, by rw [hx]; decide +kernel⟩
  have s1 : ∀ a b, wSl (scr ns) a b = some (.ow ((cutD ns a b).map .int)) := fun a b => by
    show bo (scrOf _) _ = _
    rw [scrOf_scr]; rfl
  have s2 : ∀ l : List Int, wSum (.list (l.map .int)) = some (.sh (.int l.sum)) := fun l => by
    show bo (intsOf _) _ = _
    rw [intsOf_int]; rfl
  generalize hs : (cutD ns (some t) (some (t + 1))).sum = seed
  refine ⟨[.int (max (seed - 1000000000000000000) 0 % big), .int (seed % 2147483629), .int 0, .int t], ?_, _, _, _, _, rfl, Int.emod_nonneg _ (by omega), Int.emod_nonneg _ (by decide), Int.emod_lt_of_pos _ (by decide), by decide, by omega, ht.1, ht.2⟩
  simp only [scr] at s1 ⊢
  simp [F_law_purse, b_law_purse, runF, p1, p2, p3, s1, s2, hs, wMod_ii _ big hb0, wMod_ii _ 2147483629 (by decide)]
theorem purses_i {M : Nat} (hM : M ≤ 1000000000) (ns : List Int) : ∃ ws, F_law_purses [scr ns, .int 3] = some (.nest ws) ∧ ∀ w ∈ ws, ∃ ps, w = .ow ps ∧ POk M ps := by
  have s1 : wLen (scr ns) = some (.sh (.int ns.length)) := by
    show bo (scrOf _) _ = _
    rw [scrOf_scr]; rfl
  obtain ⟨n, hn, hn2⟩ : ∃ n : Nat, max (1 : Int) (min 3 (ns.length : Int)) = (n : Int) ∧ n ≤ 3 := ⟨(max (1 : Int) (min 3 (ns.length : Int))).toNat, by omega, by omega⟩
  obtain ⟨ws, env', h1, h2⟩ := cLoopN_inv (tg := tgN 2) (fe := eF F_law_purse (adC (eD 0) (adC (eD 2) adN))) (vs := [2]) (fun acc env => env = [.sh (scr ns), .sh (.int 3), .emp] ∧ ∀ w ∈ acc, ∃ ps, w = .ow ps ∧ POk M ps) (ds := rng 0 n) (acc := []) (env := [.sh (scr ns), .sh (.int 3), .emp]) ⟨rfl, by simp⟩ fun d hd acc env i => by
    obtain ⟨rfl, i⟩ := i
    obtain ⟨j, hj, rfl⟩ := rng_mem hd
    obtain ⟨ps, q1, q2⟩ := purse_i hM ns (0 + (j : Int)) ⟨by omega, by omega⟩
    refine ⟨_, .ow ps, [.sh (scr ns), .sh (.int 3), .sh (.int (0 + (j : Int)))], rfl, ?_, ?_⟩
    · simp only [tgN_e, wp_cons, wp_nil, put_succ, put_zero, eF_e, adC_e, adN_e, eD_e, get_zero, get_succ, wK_sh, bo_some, bd_some, q1]
    · refine ⟨rfl, fun w hw => ?_⟩
      rcases List.mem_append.mp hw with hw | hw
      · exact i w hw
      · rw [List.mem_singleton.mp hw]; exact ⟨ps, rfl, q2⟩
  refine ⟨ws, ?_, h2.2⟩
  have s2 : rngI [.int (n : Int)] = some (rng 0 n) := rngI_1 n (by omega)
  obtain ⟨rfl, h2⟩ := h2
  simp [F_law_purses, b_law_purses, runF, s1, hn, s2, h1]
theorem one_of_i {M : Nat} {ps : List D} (ds : List D) (h0 : 0 < ds.length) (hl : ds.length < 1000000) (h : POk (M + 1) ps) : ∃ r ps', ∃ hr : r < ds.length, F_law_one_of ps [.list ds] = some (.sh ds[r], ps') ∧ POk M ps' := by
  obtain ⟨r, ps', h1, h2, h3, h4⟩ := draw_n (ds.length : Int) (by omega) (by omega) h
  refine ⟨r.toNat, ps', by omega, runU_eq fun p => ?_, h4⟩
  simp [runP, b_law_one_of, h1, wIx_int ds r h2 (by omega)]
/-- insertions -/
theorem perm_ins {α : Type} (es : List α) (k : Nat) (d : α) : (es.take k ++ [d] ++ es.drop k).Perm (d :: es) := by
  have h : (es.take k ++ [d] ++ es.drop k).Perm (d :: (es.take k ++ es.drop k)) := by
    rw [List.append_assoc]
    exact List.perm_middle
  rwa [List.take_append_drop] at h
theorem shuffled_i {M : Nat} {ps : List D} (ds : List D) (hl : ds.length < 100000) (h : POk (M + ds.length) ps) : ∃ es ps', F_law_shuffled ps [.list ds] = some (.ow es, ps') ∧ es.Perm ds ∧ POk M ps' := by
  obtain ⟨e', h1, h2⟩ := fLoopP_inv (tg := tgN 3) (fb := sWq [3] (sDrop (eIns 2 (fz (eP 0 F_law_draw (adC (fz (eB wAdd (vO (bsc (bCB (c1 wLen) (bCs (bV 2) bN)))) (vO (eC (.int 1))))) adN))) (eD 3)))) (fun k e => ∃ es qs, es.Perm (ds.take k) ∧ POk (M + (ds.length - k)) qs ∧ e = fun p => [.pu p qs, .sh (.list ds), .ow es, .emp]) (ds := ds) (k := 0)
    (e := fun p => [.pu p ps, .sh (.list ds), .ow [], .emp]) ⟨[], ps, by simp, h, rfl⟩ fun i d e hd hi => by
    rw [Nat.zero_add] at hi ⊢
    obtain ⟨es, qs, i1, i2, rfl⟩ := hi
    have hi : i < ds.length := by
      rcases Nat.lt_or_ge i ds.length with z | z
      · exact z
      · rw [List.getElem?_eq_none z] at hd; cases hd
    have le : es.length = i := by rw [i1.length_eq, List.length_take]; omega
    obtain ⟨r, qs', g1, g2, g3, g4⟩ := draw_n (M := M + (ds.length - (i + 1))) ((es.length : Int) + 1) (by omega) (by omega) (i2.less (by omega))
    refine ⟨fun p => [.pu p qs, .sh (.list ds), .ow es, .sh d], fun p => [.pu p qs', .sh (.list ds), .ow (es.take r.toNat ++ [d] ++ es.drop r.toNat), .emp], fun p => rfl, fun p => ?_, _, _, ?_, g4, rfl⟩
    · simp [g1, smallLen_of (show es.length < 1000000 by omega), g2, show r < 1000000 by omega]
    · refine (perm_ins es r.toNat d).trans ?_
      rw [List.take_succ, hd]
      exact (List.Perm.cons d i1).trans (by simpa using (List.perm_append_comm (l₁ := [d]) (l₂ := ds.take i)))
  obtain ⟨es, qs, i1, i2, rfl⟩ := h2
  rw [Nat.zero_add, List.take_length] at i1
  refine ⟨es, qs, runU_eq fun p => ?_, i1, i2.less (by omega)⟩
  simp [runP, b_law_shuffled, h1 p]
end Law

set_option Elab.async false
set_option linter.all false
set_option maxRecDepth 100000
set_option maxHeartbeats 4000000
namespace Law
open PySem PySem.Spec PyProof.Rows L2 Z
/-- data of at most n floors -/
def Fl1 : Nat → D → Prop
  | 0, _ => False
  | _ + 1, .none => True
  | _ + 1, .bool _ => True
  | _ + 1, .int _ => True
  | _ + 1, .str _ => True
  | n + 1, .list ds => ds.length < 1000000 ∧ ∀ d ∈ ds, Fl1 n d
  | n + 1, .tuple ds => ds.length < 1000000 ∧ ∀ d ∈ ds, Fl1 n d
  | _ + 1, .dict _ => False
theorem zip_self : ∀ ds : List D, zipD ds ds = ds.map fun d => .tuple [d, d]
  | [] => rfl
  | d :: r => by rw [List.map_cons, ← zip_self r]; rfl
@[simp] theorem tgU_2 (u : List D → Z.Env → Option Z.Env) (a b : D) (env : Z.Env) : tgU 2 u (.tuple [a, b]) env = u [a, b] env := nrfl rfl
@[simp] theorem eqb (a b : Bool) : wEq (.bool a) (.bool b) = some (.sh (.bool (a == b))) := by cases a <;> cases b <;> rfl
@[simp] theorem neb (a b : Bool) : wNe (.bool a) (.bool b) = some (.sh (.bool (a != b))) := by cases a <;> cases b <;> rfl
theorem eqD_i (a b : Int) : eqD (.int a) (.int b) = some (a == b) := by
  have h1 : shp (.int a) = true := rfl
  have h2 : shp (.int b) = true := rfl
  simp [eqD, h1, h2, PyData.eqv]
@[simp] theorem eqi (a b : Int) : wEq (.int a) (.int b) = some (.sh (.bool (a == b))) := by
  unfold wEq
  rw [eqD_i]; rfl
@[simp] theorem nei (a b : Int) : wNe (.int a) (.int b) = some (.sh (.bool (a != b))) := by
  unfold wNe
  rw [eqD_i]; rfl
@[simp] theorem eqs (a b : Str) : wEq (.str a) (.str b) = some (.sh (.bool (a == b))) := nrfl rfl
@[simp] theorem eqn : wEq .none .none = some (.sh (.bool true)) := nrfl rfl
theorem exact_self : ∀ (n : Nat) (d : D), Fl1 n d → I_law_exact n [d, d] = some (.sh (.bool true))
  | 0, d, h => h.elim
  | n + 1, d, h => by
    have seq : ∀ ds : List D, (∀ d ∈ ds, Fl1 n d) → ∀ (x y : D) (b1 b2 : Bool), cLoop (tgU 2 (tgC (tgN 4) (tgC (tgN 5) tgZ))) tYs (bsc (bCB (I_law_exact n) (bCs (bV 4) (bCs (bV 5) bN)))) [4, 5] (zipD ds ds) [] [.sh x, .sh y, .sh (.bool b1), .sh (.bool b2), .emp, .emp] =
        some ((List.replicate ds.length true).map .bool, [.sh x, .sh y, .sh (.bool b1), .sh (.bool b2), .emp, .emp]) := fun ds hs x y b1 b2 => by
      rw [zip_self, cLoop_map (g := fun _ => .bool true) fun e he => ?_]
      · rw [List.map_map, List.map_replicate, List.nil_append, show ((fun _ => PyData.bool true) ∘ fun d : D => PyData.tuple [d, d]) = Function.const D (PyData.bool true) from rfl, List.map_const]
      · obtain ⟨d, hd, rfl⟩ := List.mem_map.mp he
        refine ⟨[.sh x, .sh y, .sh (.bool b1), .sh (.bool b2), .sh d, .sh d], [.sh x, .sh y, .sh (.bool b1), .sh (.bool b2), .sh d, .sh d], by simp, ?_, by simp⟩
        simp [exact_self n d (hs d hd)]
    have al : ∀ k : Nat, wAll (.list (List.replicate k (.bool true))) = some (.sh (.bool true)) := fun k => by
      show bo (boolsOf _) _ = _
      rw [← List.map_replicate, boolsOf_bool]
      simp
    show R_law_exact (I_law_exact n) [d, d] = _
    cases d with
    | none => simp [R_law_exact, b_law_exact, runF]
    | bool b => simp [R_law_exact, b_law_exact, runF]
    | int b => simp [R_law_exact, b_law_exact, runF]
    | str b => simp [R_law_exact, b_law_exact, runF]
    | list ds => simp [R_law_exact, b_law_exact, runF, seq ds h.2, al]
    | tuple ds => simp [R_law_exact, b_law_exact, runF, seq ds h.2, al]
    | dict _ => exact h.elim
theorem Fl1.up : ∀ {n : Nat} {d : D}, Fl1 n d → Fl1 (n + 1) d
  | 0, _, h => h.elim
  | n + 1, .none, _ => trivial
  | n + 1, .bool _, _ => trivial
  | n + 1, .int _, _ => trivial
  | n + 1, .str _, _ => trivial
  | n + 1, .list ds, h => ⟨h.1, fun d m => (h.2 d m).up⟩
  | n + 1, .tuple ds, h => ⟨h.1, fun d m => (h.2 d m).up⟩
  | n + 1, .dict _, h => h.elim
end Law

set_option Elab.async false
set_option linter.all false
set_option maxRecDepth 100000
set_option maxHeartbeats 4000000
namespace Law
open PySem PySem.Spec PyProof.Rows L2 Z
/-! ### counting on -/
abbrev iD (ns : List Int) : List D := ns.map .int
abbrev nD (ns : List Nat) : List D := List.map (fun n : Nat => PyData.int (n : Int)) ns
structure Cnt (cs : List Int) : Prop where
  pos : ∀ c ∈ cs, 1 ≤ c
  few : cs.length ≤ 1000
def way (cs : List Int) (p : Nat) : List Nat := if h : p < cs.length then p :: way cs (p + max 1 (cs[p]).toNat) else []
termination_by cs.length - p
theorem way_lt {cs : List Int} (k : Cnt cs) {p : Nat} (h : p < cs.length) : way cs p = p :: way cs (p + (cs[p]).toNat) := by
  have := k.pos _ (List.getElem_mem h)
  rw [way, dif_pos h, show max 1 (cs[p]).toNat = (cs[p]).toNat by omega]
theorem way_ge {cs : List Int} {p : Nat} (h : cs.length ≤ p) : way cs p = [] := by
  rw [way, dif_neg (by omega)]
@[simp] theorem iD_len (ns : List Int) : (iD ns).length = ns.length := List.length_map ..
theorem ixD {cs : List Int} {q : Nat} (h : q < cs.length) : wIx (.list (iD cs)) (.int (q : Int)) = some (.sh (.int cs[q])) := by
  rw [wIx_nat _ _ (by simpa using h)]
  simp
theorem len_i (cs : List Int) : wLen (.list (iD cs)) = some (.sh (.int (cs.length : Int))) := by simp
theorem wLoop_st {S : Type} {fc : Z.Env → Option (Bool × Z.Env)} {fb : Z.Env → Option (Fl × Z.Env)} (st : S → Z.Env) (I : S → Prop) (m : S → Nat) (J : S → Prop) (h : ∀ s, I s → ∃ b, fc (st s) = some (b, st s) ∧ (b = false → J s) ∧ (b = true → ∃ s', fb (st s) = some (.nx, st s') ∧ I s' ∧ m s' < m s)) :
    ∀ {n : Nat} {s : S}, I s → m s < n → ∃ s', wLoop fc fb n (st s) = some (.nx, st s') ∧ J s'
  | 0, _, _, z => by omega
  | n + 1, s, i, z => by
    obtain ⟨b, h1, h2, h3⟩ := h s i
    rw [wLoop, h1]
    simp only [bd_some]
    cases b with
    | false => exact ⟨s, by simp, h2 rfl⟩
    | true =>
      obtain ⟨s2, h4, h5, h6⟩ := h3 rfl
      obtain ⟨s', h7, h8⟩ := wLoop_st st I m J h h5 (show m s2 < n by omega)
      exact ⟨s', by simp only [if_true, h4, lp_nx]; exact h7, h8⟩
theorem law_way_i {cs : List Int} (k : Cnt cs) (p : Nat) : F_law_way [.list (iD cs), .int (p : Int)] = some (.ow (nD (way cs p))) := by
  have few := k.few
  obtain ⟨⟨acc, q⟩, h1, h2⟩ := wLoop_st (S := List D × Nat) (fc := tD (bsc (bB wLt (bV 3) (bCB (c1 wLen) (bCs (bV 0) bN))))) (fb := sSeq (sDrop (eApp 2 (eD 3))) (sSet 3 (eB wAdd (eV 3) (vO (fz (eB wIx (eV 0) (eV 3)))))))
    (fun s => [.sh (.list (iD cs)), .sh (.int (p : Int)), .ow s.1, .sh (.int (s.2 : Int))]) (fun s => s.1 ++ nD (way cs s.2) = nD (way cs p) ∧ s.1.length ≤ s.2) (fun s => cs.length - s.2) (fun s => s.1 = nD (way cs p)) (fun ⟨acc, q⟩ ⟨e, l⟩ => by
    dsimp only at e l ⊢
    refine ⟨decide (q < cs.length), by simp, fun hb => ?_, fun hb => ?_⟩
    · have hb := of_decide_eq_false hb
      rw [way_ge (by omega)] at e
      rw [← e]; simp
    · have hb := of_decide_eq_true hb
      have c1 := k.pos _ (List.getElem_mem hb)
      refine ⟨(acc ++ [.int (q : Int)], q + (cs[q]).toNat), ?_, ⟨?_, ?_⟩, ?_⟩
      · have e3 : ((q + (cs[q]).toNat : Nat) : Int) = (q : Int) + cs[q] := by omega
        simp only [e3]
        simp [smallLen_of (show acc.length < 1000000 by omega), ixD hb]
      · rw [← e, way_lt k hb]; simp
      · simp; omega
      · dsimp only; omega) (n := fuel) (s := ([], p)) ⟨by simp, Nat.zero_le _⟩ (by
    simp only [fuel]; omega)
  dsimp only at h1 h2
  subst h2
  simp [F_law_way, b_law_way, runF, h1]
end Law

set_option Elab.async false
set_option linter.all false
set_option maxRecDepth 100000
set_option maxHeartbeats 4000000
namespace Law
open PySem PySem.Spec PyProof.Rows L2 Z
theorem way_there_i {cs : List Int} (k : Cnt cs) (p : Nat) (hp : p < cs.length) : F_way_there [.list (iD cs), .int (p : Int)] = some (.ow (nD (way cs p))) := by
  have few := k.few
  obtain ⟨⟨acc, q⟩, h1, h2⟩ := wLoop_st (S := List D × Nat) (fc := (tD (bsc (bB wLt (bB wAdd (bB wIx (bV 2) (bU wNeg (bC (.int 1)))) (bB wIx (bV 0) (bB wIx (bV 2) (bU wNeg (bC (.int 1)))))) (bCB (c1 wLen) (bCs (bV 0) bN)))))) (fb := (sDrop (eApp 2 (fz (eB wAdd (vO (fz (eB wIx (eV 2) (vO (fz (eU wNeg (vO (eC (.int 1))))))))) (vO (fz (eB wIx (eV 0) (vO (fz (eB wIx (eV 2) (vO (fz (eU wNeg (vO (eC (.int 1)))))))))))))))))
    (fun s => [.sh (.list (iD cs)), .sh (.int (p : Int)), .ow (s.1 ++ [.int (s.2 : Int)])]) (fun s => s.1 ++ nD (way cs s.2) = nD (way cs p) ∧ s.1.length ≤ s.2 ∧ s.2 < cs.length) (fun s => cs.length - s.2) (fun s => s.1 ++ [.int (s.2 : Int)] = nD (way cs p)) (fun ⟨acc, q⟩ ⟨e, l, hq⟩ => by
    dsimp only at e l hq ⊢
    have c1 := k.pos _ (List.getElem_mem hq)
    rw [way_lt k hq] at e
    refine ⟨decide (q + (cs[q]).toNat < cs.length), ?_, fun hb => ?_, fun hb => ?_⟩
    · have e3 : ((q : Int) + cs[q] < (cs.length : Int)) ↔ (q + (cs[q]).toNat < cs.length) := by omega
      simp [wIx_last, ixD hq, e3]
    · have hb := of_decide_eq_false hb
      rw [way_ge (by omega)] at e
      rw [← e]; rfl
    · have hb := of_decide_eq_true hb
      refine ⟨(acc ++ [.int (q : Int)], q + (cs[q]).toNat), ?_, ⟨?_, ?_, hb⟩, ?_⟩
      · have e3 : ((q + (cs[q]).toNat : Nat) : Int) = (q : Int) + cs[q] := by omega
        simp only [e3]
        simp [wIx_last, ixD hq, smallLen_of (show acc.length + 1 < 1000000 by omega)]
      · rw [← e]; simp
      · simp; omega
      · dsimp only; omega) (n := fuel) (s := ([], p)) ⟨by simp, Nat.zero_le _, hp⟩ (by
    simp only [fuel]; omega)
  dsimp only at h1 h2
  rw [h2] at h1
  simp only [List.nil_append] at h1
  simp [F_way_there, b_way_there, runF, h1]
theorem all_true (n : Nat) : wAll (.list (List.replicate n (.bool true))) = some (.sh (.bool true)) := by
  show bo (boolsOf _) _ = _
  rw [← List.map_replicate, boolsOf_bool]
  simp
theorem map_true (ds : List D) : ds.map (fun _ => PyData.bool true) = List.replicate ds.length (.bool true) := by
  induction ds with
  | nil => rfl
  | cons d r ih => rw [List.map_cons, ih]; rfl
theorem are_counts_i {cs : List Int} (k : Cnt cs) : F_are_counts [.list (iD cs)] = some (.sh (.bool true)) := by
  have h : cLoop (tgN 1) tYs (bsc (bCB F_is_count (bCs (bV 1) (bCs (bC (.int 1)) bN)))) [1] (iD cs) [] [.sh (.list (iD cs)), .emp] = some (List.replicate cs.length (.bool true), [.sh (.list (iD cs)), .emp]) := by
    rw [cLoop_map (g := fun _ => .bool true) fun d hd => ?_]
    · rw [map_true]; simp
    · obtain ⟨c, hc, rfl⟩ := List.mem_map.mp hd
      have := k.pos c hc
      refine ⟨[.sh (.list (iD cs)), .sh (.int c)], [.sh (.list (iD cs)), .sh (.int c)], by simp, ?_, by simp⟩
      simp [is_count_i, show max (1 : Int) 0 ≤ c by omega]
  simp only [iD] at h
  simp [F_are_counts, b_are_counts, runF, h, all_true]
theorem check_counts_i {cs : List Int} (k : Cnt cs) : F_check_counts [.list (iD cs)] = some (.sh .none) := by
  simp [F_check_counts, b_check_counts, runF, are_counts_i k]
theorem check_start_i {cs : List Int} (k : Cnt cs) {p : Nat} (hp : p < cs.length) : F_check_start [.list (iD cs), .int (p : Int)] = some (.sh .none) := by
  have := is_count_i (p : Int) 0
  simp [F_check_start, b_check_start, runF, check_counts_i k, this, show ¬(cs.length ≤ p) by omega]
theorem way_from_i {cs : List Int} (k : Cnt cs) {p : Nat} (hp : p < cs.length) : F_way_from [.list (iD cs), .int (p : Int)] = some (.ow (nD (way cs p))) := by
  simp [F_way_from, b_way_from, runF, check_start_i k hp, way_there_i k p hp]
/-! the last place -/
def end_ (cs : List Int) (p : Nat) : Nat := (way cs p).getLastD 0
theorem end_ge {cs : List Int} (k : Cnt cs) {p : Nat} (hp : p < cs.length) (h : cs.length ≤ p + (cs[p]).toNat) : end_ cs p = p := by
  unfold end_
  rw [way_lt k hp, way_ge h]; rfl
theorem end_lt {cs : List Int} (k : Cnt cs) {p : Nat} (hp : p < cs.length) (h : p + (cs[p]).toNat < cs.length) : end_ cs p = end_ cs (p + (cs[p]).toNat) := by
  unfold end_
  rw [way_lt k hp, way_lt k h]; rfl
theorem way_end {cs : List Int} (k : Cnt cs) {p : Nat} (hp : p < cs.length) : ∃ l, way cs p = l ++ [end_ cs p] := by
  have h : way cs p ≠ [] := by rw [way_lt k hp]; simp
  refine ⟨(way cs p).dropLast, ?_⟩
  unfold end_
  rw [List.getLastD_eq_getLast?, List.getLast?_eq_some_getLast h]
  exact (List.dropLast_concat_getLast h).symm
abbrev endsN (cs : List Int) : List Nat := (List.range cs.length).map (end_ cs)
theorem rngDn_len (lo : Int) (n : Nat) : (rngDn lo n).length = n := by unfold rngDn; rw [List.length_map, List.length_range]
theorem ends_there_i {cs : List Int} (k : Cnt cs) : F_ends_there [.list (iD cs)] = some (.ow (nD (endsN cs))) := by
  have few := k.few
  have m1 : wMul (.list [.int 0]) (.int (cs.length : Int)) = some (.ow (List.replicate cs.length (.int 0))) := by
    rw [wMul_rep _ _ (by simp; omega) (by omega), flat_one]
  have m2 : inR ((cs.length : Int) - 1) = true := inR_iff.mpr ⟨by omega, by omega⟩
  have m3 : inR (-1) = true := inR_iff.mpr ⟨by omega, by omega⟩
  obtain ⟨env', h1, h2⟩ := fLoop_inv (tg := tgN 2) (fb := (sWq [2, 3] (sSeq (sSet 3 (eB wAdd (eV 2) (vO (fz (eB wIx (eV 0) (eV 2)))))) (sIx 1 (eD 2) (fz (eIf (tD (bsc (bB wLt (bV 3) (bCB (c1 wLen) (bCs (bV 0) bN))))) (eB wIx (eV 1) (eV 3)) (sW (eD 2))))))))
    (fun i env => ∃ fd : List D, env = [.sh (.list (iD cs)), .ow fd, .emp, .emp] ∧ fd.length = cs.length ∧ ∀ j, cs.length ≤ j + i → j < cs.length → fd[j]? = some (.int (end_ cs j : Int))) (ds := rngDn ((cs.length : Int) - 1) cs.length) (k := 0) (env := [.sh (.list (iD cs)), .ow (List.replicate cs.length (.int 0)), .emp, .emp])
    ⟨_, rfl, by simp, fun j z1 z2 => by omega⟩ fun i d env hd hi => by
    rw [Nat.zero_add] at hi ⊢
    obtain ⟨fd, rfl, l1, l2⟩ := hi
    obtain ⟨hi, rfl⟩ := rngDn_get hd
    obtain ⟨q, hq⟩ : ∃ q : Nat, (cs.length : Int) - 1 - (i : Int) = (q : Int) := ⟨cs.length - 1 - i, by omega⟩
    rw [hq]
    have hql : q < cs.length := by omega
    have c1 := k.pos _ (List.getElem_mem hql)
    have x1 : ixN fd.length (q : Int) = some q := by
      unfold ixN
      rw [if_pos (by omega), if_pos (by omega), Int.toNat_natCast]
    refine ⟨[.sh (.list (iD cs)), .ow fd, .sh (.int (q : Int)), .emp], [.sh (.list (iD cs)), .ow (fd.set q (.int (end_ cs q : Int))), .emp, .emp], rfl, ?_, _, rfl, by simp [l1], fun j z1 z2 => ?_⟩
    · by_cases hb : q + (cs[q]).toNat < cs.length
      · obtain ⟨r, hr⟩ : ∃ r : Nat, (q : Int) + cs[q] = (r : Int) := ⟨q + (cs[q]).toNat, by omega⟩
        have hrl : r < cs.length := by omega
        have g := l2 r (by omega) hrl
        have gx : wIx (.list fd) (.int (r : Int)) = some (.sh (.int (end_ cs r : Int))) := by
          rw [wIx_l, Z.atI_nat, g]; rfl
        have e2 : end_ cs q = end_ cs r := by rw [end_lt k hql hb, show q + (cs[q]).toNat = r by omega]
        rw [e2]
        simp [ixD hql, hr, show (r : Int) < (cs.length : Int) by omega, gx, x1, hrl]
      · have e2 : end_ cs q = q := end_ge k hql (by omega)
        have nb : ¬((q : Int) + cs[q] < (cs.length : Int)) := by omega
        rw [e2]
        simp [ixD hql, nb, x1]
    · rw [List.getElem?_set]
      by_cases e : q = j
      · subst e
        rw [if_pos rfl, if_pos (by omega)]
      · rw [if_neg e]
        exact l2 j (by omega) z2
  obtain ⟨fd, rfl, l1, l2⟩ := h2
  have e : fd = nD (endsN cs) := by
    apply List.ext_getElem?
    intro j
    by_cases hj : j < cs.length
    · rw [l2 j (by rw [rngDn_len]; omega) hj]
      simp [hj]
    · rw [List.getElem?_eq_none (by omega), List.getElem?_eq_none (by simp <;> omega)]
  subst e
  have r1 : iRd (aC (vO (fz (eB wSub (vO (bsc (bCB (c1 wLen) (bCs (bV 0) bN)))) (vO (eC (.int 1)))))) (aC (vO (fz (eU wNeg (vO (eC (.int 1)))))) (aC (vO (fz (eU wNeg (vO (eC (.int 1)))))) aN))) [.sh (.list (iD cs)), .ow (List.replicate cs.length (.int 0)), .emp, .emp] = some (rngDn ((cs.length : Int) - 1) cs.length, [.sh (.list (iD cs)), .ow (List.replicate cs.length (.int 0)), .emp, .emp]) := by
    simp only [iRd_e, aC_e, vO_e, fz_e, eB_e, bsc_e, bCB_e, bCs_e, bV_e, bN_e, get_zero, wD_sh, bo_some, c1_one, wLen_list, iD_len, isSc_i, if_true, bd_some, eC_e, look_val, wSub_ii, eU_e, wNeg_i, aN_e, looks_cons, looks_nil]
    rw [if_pos ⟨m2, m3, trivial⟩, show ((cs.length : Int) - 1 - -1).toNat = cs.length by omega]
  refine runF_rt (e := [.sh (.list (iD cs)), .emp, .emp, .emp]) rfl ?_
  show b_ends_there [.sh (.list (iD cs)), .emp, .emp, .emp] = _
  have b1 : bsc (bCB (c1 wLen) (bCs (bV 0) bN)) [.sh (.list (iD cs)), .emp, .emp, .emp] = some (.int (cs.length : Int), [.sh (.list (iD cs)), .emp, .emp, .emp]) := by simp
  have b2 : eLst (adC (eC (.int 0)) adN) [.sh (.list (iD cs)), .emp, .emp, .emp] = some (.ow [.int 0], [.sh (.list (iD cs)), .emp, .emp, .emp]) := by simp
  have q1 : eB wMul (vO (fz (eLst (adC (eC (.int 0)) adN)))) (vO (bsc (bCB (c1 wLen) (bCs (bV 0) bN)))) [.sh (.list (iD cs)), .emp, .emp, .emp] = some (.ow (List.replicate cs.length (.int 0)), [.sh (.list (iD cs)), .emp, .emp, .emp]) :=
    eB_v (a := .val (.list [.int 0])) (b := .val (.int (cs.length : Int))) (e1 := [.sh (.list (iD cs)), .emp, .emp, .emp]) (by rw [vO_e, fz_e, b2]; rfl) (by rw [vO_e, b1]; rfl) rfl rfl m1
  unfold b_ends_there
  rw [sSeq_e, sSet_e, q1, bd_some, sq_nx, sSeq_e, sFor_e]
  show sq (bd (iRd _ [.sh (.list (iD cs)), .ow (List.replicate cs.length (.int 0)), .emp, .emp]) _) _ = _
  rw [r1, bd_some, h1, sq_nx]
  rfl
theorem ends_of_i {cs : List Int} (k : Cnt cs) : F_ends_of [.list (iD cs)] = some (.ow (nD (endsN cs))) := by
  simp [F_ends_of, b_ends_of, runF, check_counts_i k, ends_there_i k]
end Law

set_option Elab.async false
set_option linter.all false
set_option maxRecDepth 100000
set_option maxHeartbeats 4000000
namespace Law
open PySem PySem.Spec PyProof.Rows L2 Z
/-! ### lists of ints: equal, in, cut -/
theorem nD_iD (l : List Nat) : nD l = iD (List.map (fun n : Nat => (n : Int)) l) := by simp [nD, iD]
theorem lay_ints : ∀ ns : List Int, PyData.canLayAll0 (iD ns) = true
  | [] => rfl
  | n :: r => by
    show (PyData.canLay0 (.int n) && PyData.canLayAll0 (iD r)) = true
    rw [lay_ints r]; rfl
theorem shp_ints (ns : List Int) : shp (.list (iD ns)) = true := by
  have h1 : PyData.canLay0 (.list (iD ns)) = true := lay_ints ns
  have h2 : PyData.depth (.list (iD ns)) = 1 := by
    show PyData.depthAll (iD ns) + 1 = 1
    rw [depth_ints]
  have h3 : PyData.hasDict (.list (iD ns)) = false := by
    have : ∀ ns : List Int, PyData.hasDictAll (iD ns) = false := fun ns => by
      induction ns with
      | nil => rfl
      | cons n r ih => show (PyData.hasDict (.int n) || PyData.hasDictAll (iD r)) = false; rw [ih]; rfl
    exact this ns
  unfold shp SeqAt.shaped
  rw [h1, h2, h3]; rfl
theorem shp_nil : shp (.list []) = true := shp_ints []
theorem eqv_nil : ∀ ns : List Int, PyData.eqv (.list (iD ns)) (.list []) = ns.isEmpty
  | [] => rfl
  | _ :: _ => rfl
theorem ne_nil (ns : List Int) : wNe (.list (iD ns)) (.list []) = some (.sh (.bool (!ns.isEmpty))) := by
  have : eqD (.list (iD ns)) (.list []) = some ns.isEmpty := by
    show (if shp (.list (iD ns)) = true ∧ shp (.list []) = true then some (PyData.eqv (.list (iD ns)) (.list [])) else none) = _
    rw [if_pos ⟨shp_ints ns, shp_nil⟩, eqv_nil]
  unfold wNe
  rw [this, bo_some]
theorem eq_nil (ns : List Int) : wEq (.list (iD ns)) (.list []) = some (.sh (.bool ns.isEmpty)) := by
  have : eqD (.list (iD ns)) (.list []) = some ns.isEmpty := by
    show (if shp (.list (iD ns)) = true ∧ shp (.list []) = true then some (PyData.eqv (.list (iD ns)) (.list [])) else none) = _
    rw [if_pos ⟨shp_ints ns, shp_nil⟩, eqv_nil]
  unfold wEq
  rw [this, bo_some]
theorem flat_ints : ∀ ns : List Int, allFlat (iD ns) = true
  | [] => rfl
  | n :: r => by
    show (flatD (.int n) && allFlat (iD r)) = true
    rw [flat_ints r]; rfl
theorem inD_ints (n : Int) : ∀ ns : List Int, inD (.int n) (iD ns) = decide (n ∈ ns)
  | [] => by simp [inD]
  | m :: r => by
    have ih := inD_ints n r
    have e : PyData.eqv (.int m) (.int n) = (m == n) := rfl
    show (PyData.eqv (.int m) (.int n) || inD (.int n) (iD r)) = _
    rw [ih, e]
    by_cases h : m = n
    · subst h; simp
    · simp [h, show ¬ n = m from fun z => h z.symm]
theorem in_i (n : Int) (ns : List Int) : wIn false (.int n) (.list (iD ns)) = some (.sh (.bool (decide (n ∈ ns)))) := by
  have : (if flatD (.int n) = true ∧ allFlat (iD ns) = true then some (W.sh (.bool (if false = true then !inD (.int n) (iD ns) else inD (.int n) (iD ns)))) else none) = some (.sh (.bool (decide (n ∈ ns)))) := by
    rw [if_pos ⟨rfl, flat_ints ns⟩, inD_ints]; rfl
  exact this
theorem cut_take {α : Type} (xs : List α) (k : Nat) : Z.cutD xs none (some (k : Int)) = xs.take k := by
  unfold Z.cutD
  rw [HT.sIx_none, HT.sIx_nat, List.drop_zero, Nat.sub_zero, List.take_eq_take_iff]
  omega
theorem sl_take (ds : List D) (k : Nat) : wSl (.list ds) none (some (k : Int)) = some (.ow (ds.take k)) := by
  show some (W.ow (Z.cutD ds none (some (k : Int)))) = _
  rw [cut_take]
theorem count_i (ns : List Int) (n : Int) : wCount (.list (iD ns)) (.int n) = some (.sh (.int ((ns.count n : Nat) : Int))) := by
  show bo (intsOf _) _ = _
  rw [intsOf_int]; rfl
theorem sum_i (ns : List Int) : wSum (.list (iD ns)) = some (.sh (.int ns.sum)) := by
  show bo (intsOf _) _ = _
  rw [intsOf_int]; rfl
/-! ### ways -/
theorem way_ind {cs : List Int} (k : Cnt cs) {Q : Nat → Prop} (h0 : ∀ p, cs.length ≤ p → Q p) (h1 : ∀ p (h : p < cs.length), Q (p + (cs[p]).toNat) → Q p) (p : Nat) : Q p := by
  generalize hn : cs.length - p = n
  induction n using Nat.strongRecOn generalizing p with
  | _ n ih =>
    by_cases h : p < cs.length
    · have := k.pos _ (List.getElem_mem h)
      exact h1 p h (ih (cs.length - (p + (cs[p]).toNat)) (by omega) _ rfl)
    · exact h0 p (by omega)
theorem way_le {cs : List Int} (k : Cnt cs) (p : Nat) : (∀ x ∈ way cs p, p ≤ x ∧ x < cs.length ∧ end_ cs x = end_ cs p) ∧ (way cs p).Pairwise (· < ·) := by
  refine way_ind k (Q := fun p => (∀ x ∈ way cs p, p ≤ x ∧ x < cs.length ∧ end_ cs x = end_ cs p) ∧ (way cs p).Pairwise (· < ·)) (fun p h => ?_) (fun p h ih => ?_) p
  · rw [way_ge h]; simp
  · have c1 := k.pos _ (List.getElem_mem h)
    rw [way_lt k h]
    refine ⟨fun x hx => ?_, List.pairwise_cons.mpr ⟨fun x hx => ?_, ih.2⟩⟩
    · rcases List.mem_cons.mp hx with rfl | hx
      · exact ⟨Nat.le_refl _, h, rfl⟩
      · obtain ⟨i1, i2, i3⟩ := ih.1 x hx
        refine ⟨by omega, i2, ?_⟩
        rw [i3, end_lt k h (by omega)]
    · have := (ih.1 x hx).1
      omega
theorem end_mem {cs : List Int} (k : Cnt cs) {p : Nat} (hp : p < cs.length) : end_ cs p ∈ way cs p := by
  obtain ⟨l, e⟩ := way_end k hp
  rw [e]; simp
theorem end_bound {cs : List Int} (k : Cnt cs) {p : Nat} (hp : p < cs.length) : end_ cs p < cs.length := ((way_le k p).1 _ (end_mem k hp)).2.1
theorem inc_ext : ∀ {l m : List Nat}, l.Pairwise (· < ·) → m.Pairwise (· < ·) → (∀ x, x ∈ l ↔ x ∈ m) → l = m
  | [], [], _, _, _ => rfl
  | [], b :: m, _, _, h => absurd ((h b).mpr List.mem_cons_self) (by simp)
  | a :: l, [], _, _, h => absurd ((h a).mp List.mem_cons_self) (by simp)
  | a :: l, b :: m, hl, hm, h => by
    obtain ⟨l1, l2⟩ := List.pairwise_cons.mp hl
    obtain ⟨m1, m2⟩ := List.pairwise_cons.mp hm
    have e : a = b := by
      rcases List.mem_cons.mp ((h a).mp List.mem_cons_self) with z | z
      · exact z
      · rcases List.mem_cons.mp ((h b).mpr List.mem_cons_self) with y | y
        · exact y.symm
        · have := m1 a z
          have := l1 b y
          omega
    subst e
    rw [inc_ext l2 m2 fun x => ?_]
    constructor
    · intro hx
      rcases List.mem_cons.mp ((h x).mp (List.mem_cons_of_mem _ hx)) with z | z
      · have := l1 x hx; omega
      · exact z
    · intro hx
      rcases List.mem_cons.mp ((h x).mpr (List.mem_cons_of_mem _ hx)) with z | z
      · have := m1 x hx; omega
      · exact z
def com (cs : List Int) (p q : Nat) : List Nat := (way cs p).filter fun x => decide (x ∈ way cs q)
theorem com_comm {cs : List Int} (k : Cnt cs) (p q : Nat) : com cs p q = com cs q p :=
  inc_ext ((way_le k p).2.filter _) ((way_le k q).2.filter _) fun x => by simp [com]; exact And.comm
theorem com_ends {cs : List Int} (k : Cnt cs) {p q : Nat} (hp : p < cs.length) (hq : q < cs.length) : com cs p q = [] ↔ end_ cs p ≠ end_ cs q := by
  constructor
  · intro h e
    have : end_ cs p ∈ com cs p q := by
      simp only [com, List.mem_filter, decide_eq_true_eq]
      exact ⟨end_mem k hp, by rw [e]; exact end_mem k hq⟩
    rw [h] at this
    simp at this
  · intro h
    rcases hc : com cs p q with _ | ⟨x, r⟩
    · rfl
    · have hx : x ∈ com cs p q := by rw [hc]; exact List.mem_cons_self
      simp only [com, List.mem_filter, decide_eq_true_eq] at hx
      exact absurd ((((way_le k p).1 x hx.1).2.2).symm.trans ((way_le k q).1 x hx.2).2.2) h
def fst : List Nat → D
  | [] => .none
  | x :: _ => .int (x : Int)
theorem in_n (x : Nat) (l : List Nat) : wIn false (.int (x : Int)) (.list (nD l)) = some (.sh (.bool (decide (x ∈ l)))) := by
  have e : ((x : Int) ∈ List.map (fun n : Nat => (n : Int)) l) ↔ x ∈ l := by
    rw [List.mem_map]
    exact ⟨fun ⟨a, h, z⟩ => by rw [← Int.ofNat_inj.mp z]; exact h, fun h => ⟨x, h, rfl⟩⟩
  rw [nD_iD, in_i, decide_eq_decide.mpr e]
theorem ne_nilN (l : List Nat) : wNe (.list (nD l)) (.list []) = some (.sh (.bool (!l.isEmpty))) := by
  rw [nD_iD, ne_nil]; simp
theorem first_common_i {cs : List Int} (k : Cnt cs) {p q : Nat} (hp : p < cs.length) (hq : q < cs.length) : F_first_common [.list (iD cs), .int (p : Int), .int (q : Int)] = some (.sh (fst (com cs p q))) := by
  have c0 := is_count_i (q : Int) 0
  have h : cLoop (tgN 5) (tD (bsc (bB (wIn false) (bV 5) (bV 3)))) (eD 5) [5] (nD (way cs q)) [] [.sh (.list (iD cs)), .sh (.int (p : Int)), .sh (.int (q : Int)), .ow (nD (way cs p)), .emp, .emp] =
      some (nD (com cs q p), [.sh (.list (iD cs)), .sh (.int (p : Int)), .sh (.int (q : Int)), .ow (nD (way cs p)), .emp, .emp]) := by
    rw [cLoop_filter (b := fun d => match d with
      | .int x => decide (x.toNat ∈ way cs p)
      | _ => false) (g := fun d => d) fun d hd => ?_]
    · simp only [List.nil_append, List.map_id', com, nD, List.filter_map]
      rfl
    · obtain ⟨x, hx, rfl⟩ := List.mem_map.mp hd
      refine ⟨[.sh (.list (iD cs)), .sh (.int (p : Int)), .sh (.int (q : Int)), .ow (nD (way cs p)), .emp, .sh (.int (x : Int))], [.sh (.list (iD cs)), .sh (.int (p : Int)), .sh (.int (q : Int)), .ow (nD (way cs p)), .emp, .sh (.int (x : Int))], [.sh (.list (iD cs)), .sh (.int (p : Int)), .sh (.int (q : Int)), .ow (nD (way cs p)), .emp, .sh (.int (x : Int))], by simp, ?_, by simp, fun _ => ⟨by simp, by simp⟩⟩
      simp only [tD_e, bsc_e, bB_e, bV_e, get_succ, get_zero, wD_sh, wD_ow, bo_some, in_n, bd_some, isSc_b, if_true, gTr_bool, Int.toNat_natCast]
  have h2 := com_comm k q p
  have e0 := ne_nilN (com cs q p)
  simp only [nD, iD] at h e0
  rw [h2] at h e0
  simp [F_first_common, b_first_common, runF, check_start_i k hp, c0, show ¬(cs.length ≤ q) by omega, way_there_i k p hp, way_there_i k q hq, h, e0]
  rcases com cs p q with _ | ⟨x, r⟩
  · simp [fst]
  · have := wIx_nat (PyData.int (x : Int) :: List.map (fun n : Nat => PyData.int (n : Int)) r) 0 (by simp)
    simp [fst]
    rw [show (0 : Int) = ((0 : Nat) : Int) from rfl, this]
    simp
end Law

set_option Elab.async false
set_option linter.all false
set_option maxRecDepth 100000
set_option maxHeartbeats 4000000
namespace Law
open PySem PySem.Spec PyProof.Rows L2 Z
/-! ### shares -/
def pt (a b : Nat) : D := .tuple [.int ((a / Nat.gcd a b : Nat) : Int), .int ((b / Nat.gcd a b : Nat) : Int)]
theorem div_n (a g : Nat) (h : 0 < g) (z : g < 1000000000) : wDiv (.int (a : Int)) (.int (g : Int)) = some (.sh (.int ((a / g : Nat) : Int))) := by
  rw [wDiv_ii _ _ (by omega) (by
    rw [Int.natAbs_natCast]
    have : g.log2 < 30 := log2_lt (by decide) (Nat.lt_of_lt_of_le z (by decide))
    omega)]
  rfl
theorem gcd_small {a b : Nat} (h : 0 < b) (z : b < 1000000000) : 0 < Nat.gcd a b ∧ Nat.gcd a b < 1000000000 := ⟨Nat.gcd_pos_of_pos_right a h, Nat.lt_of_le_of_lt (Nat.gcd_le_right a h) z⟩
theorem fraction_i (a b : Nat) (h : 0 < b) (z : b < 1000000000) : F_fraction [.int (a : Int), .int (b : Int)] = some (.sh (pt a b)) := by
  obtain ⟨g1, g2⟩ := gcd_small (a := a) h z
  have w1 : wGcd (.int (a : Int)) (.int (b : Int)) = some (.sh (.int ((Nat.gcd a b : Nat) : Int))) := rfl
  simp [F_fraction, b_fraction, runF, h, w1, div_n a _ g1 g2, div_n b _ g1 g2, pt]
theorem law_part_i (a b : Nat) (h : 0 < b) (z : b < 90000) : F_law_part [.int (a : Int), .int (b : Int)] = some (.sh (pt a b)) := by
  obtain ⟨g1, g2⟩ := gcd_small (a := a) h (by omega)
  obtain ⟨⟨x, y⟩, h1, h2, h3⟩ := wLoop_st (S := Nat × Nat) (fc := tD (bsc (bB wGt (bV 3) (bC (.int 0))))) (fb := sPar 2 3 (adC (eD 3) (adC (fz (eB wMod (eV 2) (eV 3))) adN)))
    (fun s => [.sh (.int (a : Int)), .sh (.int (b : Int)), .sh (.int (s.1 : Int)), .sh (.int (s.2 : Int))]) (fun s => Nat.gcd s.1 s.2 = Nat.gcd a b) (fun s => s.2) (fun s => s.1 = Nat.gcd a b ∧ s.2 = 0) (fun ⟨x, y⟩ e => by
    dsimp only at e ⊢
    refine ⟨decide (0 < y), by simp, fun hb => ?_, fun hb => ?_⟩
    · have hb := of_decide_eq_false hb
      have : y = 0 := by omega
      subst this
      rw [Nat.gcd_zero_right] at e
      exact ⟨e, rfl⟩
    · have hb := of_decide_eq_true hb
      have m1 : wMod (.int (x : Int)) (.int (y : Int)) = some (.sh (.int ((x % y : Nat) : Int))) := by rw [wMod_ii _ _ (by omega)]; rfl
      refine ⟨(y, x % y), ?_, ?_, Nat.mod_lt _ hb⟩
      · simp [m1]
      · dsimp only
        rw [← e, Nat.gcd_comm x y, Nat.gcd_rec y x, Nat.gcd_comm]) (n := fuel) (s := (a, b)) rfl (by simp only [fuel]; omega)
  dsimp only at h1 h2 h3
  subst h2; subst h3
  simp [F_law_part, b_law_part, runF, h1, div_n a _ g1 g2, div_n b _ g1 g2, pt]
/-- how often each is there -/
def alk (E : List Nat) : Nat := (E.map fun x => E.count x).sum
theorem count_n (l : List Nat) (x : Nat) : wCount (.list (nD l)) (.int (x : Int)) = some (.sh (.int ((l.count x : Nat) : Int))) := by
  rw [nD_iD, count_i]
  have e : (List.map (fun n : Nat => (n : Int)) l).count (x : Int) = l.count x := by
    induction l with
    | nil => rfl
    | cons m r ih =>
      rw [List.map_cons, List.count_cons, List.count_cons, ih]
      by_cases h : m = x
      · subst h; simp
      · have : ¬ (m : Int) = (x : Int) := fun z => h (Int.ofNat_inj.mp z)
        simp [h, this]
  rw [e]
theorem sum_n (l : List Nat) : wSum (.list (nD l)) = some (.sh (.int ((l.sum : Nat) : Int))) := by
  rw [nD_iD, sum_i]
  have e : (List.map (fun n : Nat => (n : Int)) l).sum = ((l.sum : Nat) : Int) := by
    induction l with
    | nil => rfl
    | cons m r ih => rw [List.map_cons, List.sum_cons, List.sum_cons, ih, Int.natCast_add]
  rw [e]
theorem mul_n (a b : Nat) (ha : a < 1000000) (hb : b < 1000000) : wMul (.int (a : Int)) (.int (b : Int)) = some (.sh (.int ((a * b : Nat) : Int))) := by
  rw [wMul_ii _ _ (by
    rw [Int.natAbs_natCast, Int.natAbs_natCast]
    have h1 : a.log2 < 20 := log2_lt (by decide) (Nat.lt_of_lt_of_le ha (by decide))
    have h2 : b.log2 < 20 := log2_lt (by decide) (Nat.lt_of_lt_of_le hb (by decide))
    omega), Int.natCast_mul]
theorem take_nD (l : List Nat) (s : Nat) : (nD l).take s = nD (l.take s) := by simp [nD, List.map_take]
theorem alike_i {cs : List Int} (k : Cnt cs) (h4 : cs.length ≤ 200) {s : Nat} (hs : 0 < s) (hl : s ≤ cs.length) : F_alike_share [.list (iD cs), .int (s : Int)] = some (.sh (pt (alk ((endsN cs).take s)) (s * s))) := by
  have hss : 0 < s * s := Nat.mul_pos hs hs
  have hs2 : s * s ≤ 200 * 200 := Nat.mul_le_mul (by omega) (by omega)
  have c0 := is_count_i (s : Int) 1
  have c1 : F_check_starts [.list (iD cs), .int (s : Int)] = some (.sh .none) := by
    simp [F_check_starts, b_check_starts, runF, check_counts_i k, c0, show max (1 : Int) 0 ≤ (s : Int) by omega, show ¬(cs.length < s) by omega]
  have h : cLoop (tgN 3) tYs (fz (eCount (eV 2) (eV 3))) [3] (nD ((endsN cs).take s)) [] [.sh (.list (iD cs)), .sh (.int (s : Int)), .sh (.list (nD ((endsN cs).take s))), .emp] =
      some (nD (((endsN cs).take s).map fun x => ((endsN cs).take s).count x), [.sh (.list (iD cs)), .sh (.int (s : Int)), .sh (.list (nD ((endsN cs).take s))), .emp]) := by
    rw [cLoop_map (g := fun d => match d with
      | .int x => .int ((((endsN cs).take s).count x.toNat : Nat) : Int)
      | d => d) fun d hd => ?_]
    · rw [List.nil_append]; simp only [nD, List.map_map]; rfl
    · obtain ⟨x, hx, rfl⟩ := List.mem_map.mp hd
      refine ⟨[.sh (.list (iD cs)), .sh (.int (s : Int)), .sh (.list (nD ((endsN cs).take s))), .sh (.int (x : Int))], [.sh (.list (iD cs)), .sh (.int (s : Int)), .sh (.list (nD ((endsN cs).take s))), .sh (.int (x : Int))], by simp, ?_, by simp⟩
      have := count_n ((endsN cs).take s) x
      generalize (endsN cs).take s = E at this ⊢
      simp only [fz_e, eCount_e, eV_e, get_succ, get_zero, wF_sh, bo_some, bd_some, look_slot, isList_l, if_true, this, wD_sh, Int.toNat_natCast]
  have s1 := sl_take (nD (endsN cs)) s
  rw [take_nD] at s1
  have s2 := sum_n (((endsN cs).take s).map fun x => ((endsN cs).take s).count x)
  have s3 := fraction_i (alk ((endsN cs).take s)) (s * s) hss (by omega)
  have s4 := mul_n s s (by omega) (by omega)
  have s5 := ends_there_i k
  unfold alk at s3 ⊢
  generalize (endsN cs).take s = E at *
  generalize nD (endsN cs) = L at *
  generalize E.map (fun x => E.count x) = M at *
  generalize s * s = q at *
  generalize nD M = MM at *
  generalize nD E = EE at *
  simp [F_alike_share, b_alike_share, runF, c1, s5, s1, h, s2, s4, s3]
end Law

set_option Elab.async false
set_option linter.all false
set_option maxRecDepth 100000
set_option maxHeartbeats 4000000
namespace Law
open PySem PySem.Spec PyProof.Rows L2 Z
theorem cLoop_two {tg : D → Z.Env → Option Z.Env} {fe : Z.Env → Option (D × Z.Env)} {vs : List Nat} {env0 env1 : Z.Env} {g : D → D} {d : D} {ds acc : List D} (h : ∀ env, env = env0 ∨ env = env1 → ∀ x ∈ d :: ds, ∃ e1 e2, tg x (wp vs env) = some e1 ∧ fe e1 = some (g x, e2) ∧ wp vs e2 = env1) :
    cLoop tg tYs fe vs (d :: ds) acc env0 = some (acc ++ (d :: ds).map g, env1) := by
  obtain ⟨e1, e2, h1, h2, h3⟩ := h env0 (.inl rfl) d List.mem_cons_self
  rw [cLoop, h1]
  simp only [bo_some, tYs_e, bd_some, if_true, h2, h3]
  rw [cLoop_map fun x m => h env1 (.inr rfl) x (List.mem_cons_of_mem _ m)]
  simp
/-! ### packs -/
theorem is_pack_i {ns : List Int} (h0 : ∀ n ∈ ns, 0 ≤ n) (nd : ns.Nodup) (hl : ns.length ≤ 4000) : F_is_pack [.list (iD ns)] = some (.sh (.bool true)) := by
  have h : cLoop (tgN 1) tYs (bsc (bCB (fun ds => F_is_count (ds ++ [.int 0])) (bCs (bV 1) bN))) [1] (iD ns) [] [.sh (.list (iD ns)), .emp] = some (List.replicate ns.length (.bool true), [.sh (.list (iD ns)), .emp]) := by
    rw [cLoop_map (g := fun _ => .bool true) fun d hd => ?_]
    · rw [map_true]; simp
    · obtain ⟨c, hc, rfl⟩ := List.mem_map.mp hd
      have := h0 c hc
      refine ⟨[.sh (.list (iD ns)), .sh (.int c)], [.sh (.list (iD ns)), .sh (.int c)], by simp, ?_, by simp⟩
      have c0 := is_count_i c 0
      rw [show decide (max (0 : Int) 0 ≤ c) = true from decide_eq_true (by omega)] at c0
      simp [c0]
  have w : wLenSet (.list (iD ns)) = some (.sh (.int (ns.length : Int))) := by
    show bo (intsOf _) _ = _
    rw [intsOf_int, bo_some, if_pos ⟨decide_eq_true nd, hl⟩]
  have hlen : (iD ns).length = ns.length := iD_len ns
  generalize iD ns = C at *
  generalize ns.length = n at *
  simp [F_is_pack, b_is_pack, runF, h, all_true, w, hlen]
theorem check_pack_i {ns : List Int} (h0 : ∀ n ∈ ns, 0 ≤ n) (nd : ns.Nodup) (hl : ns.length ≤ 4000) : F_check_pack [.list (iD ns)] = some (.sh .none) := by
  simp [F_check_pack, b_check_pack, runF, is_pack_i h0 nd hl]
/-- values by the cards -/
def byc (vs : List Int) (n : Int) : Int := vs.getD (n % (vs.length : Int)).toNat 0
theorem byc_i {vs : List Int} (hv : vs ≠ []) (n : Int) : wMod (.int n) (.int (vs.length : Int)) = some (.sh (.int (n % (vs.length : Int)))) ∧ wIx (.list (iD vs)) (.int (n % (vs.length : Int))) = some (.sh (.int (byc vs n))) := by
  have hp : 0 < vs.length := List.length_pos_iff.mpr hv
  have m0 := Int.emod_nonneg n (b := (vs.length : Int)) (by omega)
  have m1 := Int.emod_lt_of_pos n (b := (vs.length : Int)) (by omega)
  refine ⟨wMod_ii _ _ (by omega), ?_⟩
  rw [wIx_int _ _ m0 (by simp; omega)]
  have : (n % (vs.length : Int)).toNat < vs.length := by omega
  simp [byc, this]
theorem counts_of_pack_i {ns vs : List Int} (h0 : ∀ n ∈ ns, 0 ≤ n) (nd : ns.Nodup) (hl : ns.length ≤ 4000) (k : Cnt vs) (hv : vs ≠ []) : F_counts_of_pack [.list (iD ns), .list (iD vs)] = some (.ow (iD (ns.map (byc vs)))) := by
  have h : cLoop (tgN 2) tYs (fz (eB wIx (eV 1) (vO (fz (eB wMod (eV 2) (vO (bsc (bCB (c1 wLen) (bCs (bV 1) bN))))))))) [2] (iD ns) [] [.sh (.list (iD ns)), .sh (.list (iD vs)), .emp] = some (iD (ns.map (byc vs)), [.sh (.list (iD ns)), .sh (.list (iD vs)), .emp]) := by
    rw [cLoop_map (g := fun d => match d with
      | .int n => .int (byc vs n)
      | d => d) fun d hd => ?_]
    · rw [List.nil_append]; simp only [iD, List.map_map]; rfl
    · obtain ⟨n, hn, rfl⟩ := List.mem_map.mp hd
      obtain ⟨b1, b2⟩ := byc_i hv n
      refine ⟨[.sh (.list (iD ns)), .sh (.list (iD vs)), .sh (.int n)], [.sh (.list (iD ns)), .sh (.list (iD vs)), .sh (.int n)], by simp, ?_, by simp⟩
      have hlen : (iD vs).length = vs.length := iD_len vs
      generalize iD vs = V at *
      simp [b1, b2, hlen]
  have e0 := eq_nil vs
  have e1 : vs.isEmpty = false := by cases vs with
    | nil => exact absurd rfl hv
    | cons => rfl
  rw [e1] at e0
  have p1 := check_pack_i h0 nd hl
  have p2 := are_counts_i k
  generalize iD (ns.map (byc vs)) = R at *
  generalize iD vs = V at *
  generalize iD ns = N at *
  simp [F_counts_of_pack, b_counts_of_pack, runF, p1, p2, e0, h]
/-! ### the drawn counts -/
theorem law_counts_i {M : Nat} {ps : List D} (m : Nat) (hm : 1 ≤ m) (hm2 : m ≤ 200) (h : POk (M + m + 2) ps) : ∃ cs ps', F_law_counts ps [.int (m : Int)] = some (.ow (iD cs), ps') ∧ Cnt cs ∧ cs ≠ [] ∧ cs.length ≤ m ∧ (∀ c ∈ cs, c ≤ 1000000000000) ∧ POk M ps' := by
  have p1 : wPow (.int 10) (.int 12) = some (.sh (.int 1000000000000)) := by rw [wPow_ii _ _ (by decide +kernel)]; rfl
  obtain ⟨r, ps1, hr, h1, k1⟩ := one_of_i (M := M + m + 1) [.int 2, .int 3, .int 5, .int 10, .int 1000000000000] (by decide) (by decide) h
  obtain ⟨wide, hw, hw1, hw2⟩ : ∃ wide : Int, [PyData.int 2, .int 3, .int 5, .int 10, .int 1000000000000][r] = .int wide ∧ 1 ≤ wide ∧ wide ≤ 1000000000000 := by
    have : r < 5 := hr
    match r, this with
    | 0, _ => exact ⟨2, rfl, by omega, by omega⟩
    | 1, _ => exact ⟨3, rfl, by omega, by omega⟩
    | 2, _ => exact ⟨5, rfl, by omega, by omega⟩
    | 3, _ => exact ⟨10, rfl, by omega, by omega⟩
    | 4, _ => exact ⟨1000000000000, rfl, by omega, by omega⟩
  rw [hw] at h1
  obtain ⟨q, ps2, h2, q0, q1, k2⟩ := draw_n (M := M + m) (m : Int) (by omega) (by omega) k1
  obtain ⟨n, hn⟩ : ∃ n : Nat, 1 + q = (n : Int) := ⟨(1 + q).toNat, by omega⟩
  have r1 := rngI_1 n (by omega)
  obtain ⟨ys, e', c1, c2, c3⟩ := cLoopP_inv (tg := tgN 3) (fe := fz (eB wAdd (vO (eC (.int 1))) (vO (fz (eP 0 F_law_draw (adC (eD 2) adN)))))) (vs := [3]) (fun acc e => ∃ cs qs, acc = iD cs ∧ (∀ c ∈ cs, 1 ≤ c ∧ c ≤ 1000000000000) ∧ POk (M + (n - acc.length)) qs ∧ e = fun p => [.pu p qs, .sh (.int (m : Int)), .sh (.int wide), .emp]) n (ds := rng 0 n) (acc := []) (e := fun p => [.pu p ps2, .sh (.int (m : Int)), .sh (.int wide), .emp])
    (by rw [rng_len]; simp) ⟨[], ps2, rfl, by simp, k2.less (by simp; omega), rfl⟩ fun d hd acc e i hlt => by
    obtain ⟨cs, qs, rfl, i1, i2, rfl⟩ := i
    obtain ⟨j, hj, rfl⟩ := rng_mem hd
    rw [iD_len] at i2
    rw [iD_len] at hlt
    obtain ⟨x, qs', g1, g2, g3, g4⟩ := draw_n (M := M + (n - (cs.length + 1))) wide hw1 (by omega) (i2.less (by omega))
    refine ⟨fun p => [.pu p qs, .sh (.int (m : Int)), .sh (.int wide), .sh (.int (0 + (j : Int)))], .int (1 + x), fun p => [.pu p qs', .sh (.int (m : Int)), .sh (.int wide), .sh (.int (0 + (j : Int)))], fun p => rfl, fun p => ?_, cs ++ [1 + x], qs', by simp [iD], fun c hc => ?_, by simpa using g4, rfl⟩
    · simp [g1]
    · rcases List.mem_append.mp hc with hc | hc
      · exact i1 c hc
      · rw [List.mem_singleton.mp hc]; exact ⟨by omega, by omega⟩
  obtain ⟨cs, qs, rfl, i1, i2, rfl⟩ := c2
  rw [iD_len] at c3
  refine ⟨cs, qs, runU_eq fun p => ?_, ⟨fun c hc => (i1 c hc).1, by omega⟩, ?_, by omega, fun c hc => (i1 c hc).2, i2.less (by omega)⟩
  · simp only [iD] at c1
    simp [runP, b_law_counts, p1, h1, h2, hn, r1, c1 p]
  · intro e
    rw [e] at c3
    simp at c3
    omega
end Law

set_option Elab.async false
set_option linter.all false
set_option maxRecDepth 100000
set_option maxHeartbeats 4000000
namespace Law
open PySem PySem.Spec PyProof.Rows L2 Z
def wayL (cs : List Int) : List D := (List.range cs.length).map fun p => .list (nD (way cs p))
theorem wayL_ix (cs : List Int) {p : Nat} (h : p < cs.length) : wIx (.list (wayL cs)) (.int (p : Int)) = some (.sh (.list (nD (way cs p)))) := by
  rw [wIx_nat _ _ (by simp [wayL]; exact h)]
  simp [wayL]
theorem endsN_ix (cs : List Int) {p : Nat} (h : p < cs.length) : wIx (.list (nD (endsN cs))) (.int (p : Int)) = some (.sh (.int (end_ cs p : Int))) := by
  rw [wIx_nat _ _ (by simp; exact h)]
  simp
section
variable {cs : List Int} (k : Cnt cs) (hne : cs ≠ []) (p : Addr) (qs : List D) (R : D) {a b s : Nat} (ha : a < cs.length) (hb : b < cs.length) (hs : 0 < s) (hl : s ≤ cs.length)
include k hne in
theorem loop_ways : cLoop (tgN 15) tYs (fz (eF F_law_way (adC (eD 1) (adC (eD 15) adN)))) [15] (rng 0 cs.length) [] [.pu p qs, .ow (iD cs), .sh R, .sh (.int (cs.length : Int)), .sh (.int (a : Int)), .sh (.int (b : Int)), .sh (.int (s : Int)), .emp, .emp, .emp, .emp, .emp, .emp, .emp, .emp, .emp, .emp] = some (wayL cs, [.pu p qs, .sh (.list (iD cs)), .sh R, .sh (.int (cs.length : Int)), .sh (.int (a : Int)), .sh (.int (b : Int)), .sh (.int (s : Int)), .emp, .emp, .emp, .emp, .emp, .emp, .emp, .emp, .emp, .emp]) := by
  have hlen : 0 < cs.length := List.length_pos_iff.mpr hne
  have em : (rng 0 cs.length).map (fun x => match x with
      | .int i => .list (nD (way cs i.toNat))
      | d => d) = wayL cs := by
    unfold rng wayL
    rw [List.map_map]
    apply List.map_congr_left
    intro x _
    simp
  obtain ⟨d, ds, hr⟩ : ∃ d ds, rng 0 cs.length = d :: ds := by
    cases h : rng 0 cs.length with
    | nil => have := rng_len 0 cs.length; rw [h] at this; simp at this; omega
    | cons d ds => exact ⟨d, ds, rfl⟩
  rw [← em, hr]
  have := cLoop_two (tg := tgN 15) (fe := fz (eF F_law_way (adC (eD 1) (adC (eD 15) adN)))) (vs := [15]) (acc := []) (d := d) (ds := ds) (env0 := [.pu p qs, .ow (iD cs), .sh R, .sh (.int (cs.length : Int)), .sh (.int (a : Int)), .sh (.int (b : Int)), .sh (.int (s : Int)), .emp, .emp, .emp, .emp, .emp, .emp, .emp, .emp, .emp, .emp]) (env1 := [.pu p qs, .sh (.list (iD cs)), .sh R, .sh (.int (cs.length : Int)), .sh (.int (a : Int)), .sh (.int (b : Int)), .sh (.int (s : Int)), .emp, .emp, .emp, .emp, .emp, .emp, .emp, .emp, .emp, .emp]) (g := fun x => match x with
      | .int i => .list (nD (way cs i.toNat))
      | d => d) fun env he x hx => by
    rw [← hr] at hx
    obtain ⟨i, hi, rfl⟩ := rng_mem hx
    have w := law_way_i k i
    rw [show (0 : Int) + (i : Int) = (i : Int) by omega]
    rcases he with rfl | rfl
    · refine ⟨[.pu p qs, .ow (iD cs), .sh R, .sh (.int (cs.length : Int)), .sh (.int (a : Int)), .sh (.int (b : Int)), .sh (.int (s : Int)), .emp, .emp, .emp, .emp, .emp, .emp, .emp, .emp, .sh (.int (i : Int)), .emp], [.pu p qs, .sh (.list (iD cs)), .sh R, .sh (.int (cs.length : Int)), .sh (.int (a : Int)), .sh (.int (b : Int)), .sh (.int (s : Int)), .emp, .emp, .emp, .emp, .emp, .emp, .emp, .emp, .sh (.int (i : Int)), .emp], by simp, ?_, by simp⟩
      simp only [Int.toNat_natCast]
      generalize nD (way cs i) = L at *
      simp [w]
    · refine ⟨[.pu p qs, .sh (.list (iD cs)), .sh R, .sh (.int (cs.length : Int)), .sh (.int (a : Int)), .sh (.int (b : Int)), .sh (.int (s : Int)), .emp, .emp, .emp, .emp, .emp, .emp, .emp, .emp, .sh (.int (i : Int)), .emp], [.pu p qs, .sh (.list (iD cs)), .sh R, .sh (.int (cs.length : Int)), .sh (.int (a : Int)), .sh (.int (b : Int)), .sh (.int (s : Int)), .emp, .emp, .emp, .emp, .emp, .emp, .emp, .emp, .sh (.int (i : Int)), .emp], by simp, ?_, by simp⟩
      simp only [Int.toNat_natCast]
      generalize nD (way cs i) = L at *
      simp [w]
  rw [List.nil_append] at this
  exact this
include k in
theorem loop_ends : cLoop (tgN 16) tYs (fz (eB wIx (eV 16) (vO (fz (eU wNeg (vO (eC (.int 1)))))))) [16] (wayL cs) [] [.pu p qs, .sh (.list (iD cs)), .sh R, .sh (.int (cs.length : Int)), .sh (.int (a : Int)), .sh (.int (b : Int)), .sh (.int (s : Int)), .sh (.list (wayL cs)), .emp, .emp, .emp, .emp, .emp, .emp, .emp, .emp, .emp] = some (nD (endsN cs), [.pu p qs, .sh (.list (iD cs)), .sh R, .sh (.int (cs.length : Int)), .sh (.int (a : Int)), .sh (.int (b : Int)), .sh (.int (s : Int)), .sh (.list (wayL cs)), .emp, .emp, .emp, .emp, .emp, .emp, .emp, .emp, .emp]) := by
  rw [cLoop_map (g := fun d => match d with
      | .list l => l.getLastD .none
      | d => d) fun d hd => ?_]
  · rw [List.nil_append]
    have : (wayL cs).map (fun d => match d with
      | .list l => l.getLastD .none
      | d => d) = nD (endsN cs) := by
      unfold wayL nD endsN
      rw [List.map_map, List.map_map]
      apply List.map_congr_left
      intro x hx
      obtain ⟨l, e⟩ := way_end k (List.mem_range.mp hx)
      simp only [Function.comp_def]
      rw [e]
      simp
    rw [this]
  · obtain ⟨x, hx, rfl⟩ := List.mem_map.mp hd
    obtain ⟨l, e⟩ := way_end k (List.mem_range.mp hx)
    refine ⟨[.pu p qs, .sh (.list (iD cs)), .sh R, .sh (.int (cs.length : Int)), .sh (.int (a : Int)), .sh (.int (b : Int)), .sh (.int (s : Int)), .sh (.list (wayL cs)), .emp, .emp, .emp, .emp, .emp, .emp, .emp, .emp, .sh (.list (nD (way cs x)))], [.pu p qs, .sh (.list (iD cs)), .sh R, .sh (.int (cs.length : Int)), .sh (.int (a : Int)), .sh (.int (b : Int)), .sh (.int (s : Int)), .sh (.list (wayL cs)), .emp, .emp, .emp, .emp, .emp, .emp, .emp, .emp, .sh (.list (nD (way cs x)))], by simp, ?_, by simp⟩
    have w := wIx_last (nD l) (.int (end_ cs x : Int))
    have e2 : nD (way cs x) = nD l ++ [.int (end_ cs x : Int)] := by rw [e]; simp [nD]
    rw [e2]
    simp only [fz_e, eB_e, eV_e, get_succ, get_zero, wF_sh, bo_some, bd_some, vO_e, eU_e, eC_e, look_val, wNeg_i, wD_sh, look_slot, w]
    simp
include k ha hb in
theorem loop_com : cLoop (tgN 15) (tD (bsc (bB (wIn false) (bV 15) (bB wIx (bV 7) (bV 5))))) (eD 15) [15] (nD (way cs a)) [] [.pu p qs, .sh (.list (iD cs)), .sh R, .sh (.int (cs.length : Int)), .sh (.int (a : Int)), .sh (.int (b : Int)), .sh (.int (s : Int)), .sh (.list (wayL cs)), .ow (nD (endsN cs)), .emp, .emp, .emp, .emp, .emp, .emp, .emp, .emp] = some (nD (com cs a b), [.pu p qs, .sh (.list (iD cs)), .sh R, .sh (.int (cs.length : Int)), .sh (.int (a : Int)), .sh (.int (b : Int)), .sh (.int (s : Int)), .sh (.list (wayL cs)), .ow (nD (endsN cs)), .emp, .emp, .emp, .emp, .emp, .emp, .emp, .emp]) := by
  rw [cLoop_filter (b := fun d => match d with
      | .int x => decide (x.toNat ∈ way cs b)
      | _ => false) (g := fun d => d) fun d hd => ?_]
  · simp only [List.nil_append, List.map_id', com, nD, List.filter_map]
    rfl
  · obtain ⟨x, hx, rfl⟩ := List.mem_map.mp hd
    refine ⟨[.pu p qs, .sh (.list (iD cs)), .sh R, .sh (.int (cs.length : Int)), .sh (.int (a : Int)), .sh (.int (b : Int)), .sh (.int (s : Int)), .sh (.list (wayL cs)), .ow (nD (endsN cs)), .emp, .emp, .emp, .emp, .emp, .emp, .sh (.int (x : Int)), .emp], [.pu p qs, .sh (.list (iD cs)), .sh R, .sh (.int (cs.length : Int)), .sh (.int (a : Int)), .sh (.int (b : Int)), .sh (.int (s : Int)), .sh (.list (wayL cs)), .ow (nD (endsN cs)), .emp, .emp, .emp, .emp, .emp, .emp, .sh (.int (x : Int)), .emp], [.pu p qs, .sh (.list (iD cs)), .sh R, .sh (.int (cs.length : Int)), .sh (.int (a : Int)), .sh (.int (b : Int)), .sh (.int (s : Int)), .sh (.list (wayL cs)), .ow (nD (endsN cs)), .emp, .emp, .emp, .emp, .emp, .emp, .sh (.int (x : Int)), .emp], by simp, ?_, by simp, fun _ => ⟨by simp, by simp⟩⟩
    have w := wayL_ix cs hb
    simp only [tD_e, bsc_e, bB_e, bV_e, get_succ, get_zero, wD_sh, wD_ow, bo_some, w, in_n, bd_some, isSc_b, if_true, gTr_bool, Int.toNat_natCast]
include hs hl in
theorem loop_alike : ∀ (L : List Nat) (t : Nat), fLoop (tgN 11) (sWq [11] (sSet 10 (eB wAdd (eV 10) (vO (fz (eCount (vO (fz (eSl wSl (eV 8) pN (pS (eD 6))))) (eV 11))))))) (nD L) [.pu p qs, .sh (.list (iD cs)), .sh R, .sh (.int (cs.length : Int)), .sh (.int (a : Int)), .sh (.int (b : Int)), .sh (.int (s : Int)), .sh (.list (wayL cs)), .ow (nD (endsN cs)), .ow (nD (com cs a b)), .sh (.int (t : Int)), .emp, .emp, .emp, .emp, .emp, .emp] = some (.nx, [.pu p qs, .sh (.list (iD cs)), .sh R, .sh (.int (cs.length : Int)), .sh (.int (a : Int)), .sh (.int (b : Int)), .sh (.int (s : Int)), .sh (.list (wayL cs)), .ow (nD (endsN cs)), .ow (nD (com cs a b)), .sh (.int ((t + (List.map (fun x => ((endsN cs).take s).count x) L).sum : Nat) : Int)), .emp, .emp, .emp, .emp, .emp, .emp])
  | [], t => by simp [fLoop]
  | x :: L, t => by
    have c := count_n ((endsN cs).take s) x
    have w := sl_take (nD (endsN cs)) s
    rw [take_nD] at w
    rw [show nD (x :: L) = .int (x : Int) :: nD L from rfl, fLoop]
    have step : sWq [11] (sSet 10 (eB wAdd (eV 10) (vO (fz (eCount (vO (fz (eSl wSl (eV 8) pN (pS (eD 6))))) (eV 11)))))) [.pu p qs, .sh (.list (iD cs)), .sh R, .sh (.int (cs.length : Int)), .sh (.int (a : Int)), .sh (.int (b : Int)), .sh (.int (s : Int)), .sh (.list (wayL cs)), .ow (nD (endsN cs)), .ow (nD (com cs a b)), .sh (.int (t : Int)), .sh (.int (x : Int)), .emp, .emp, .emp, .emp, .emp] = some (.nx, [.pu p qs, .sh (.list (iD cs)), .sh R, .sh (.int (cs.length : Int)), .sh (.int (a : Int)), .sh (.int (b : Int)), .sh (.int (s : Int)), .sh (.list (wayL cs)), .ow (nD (endsN cs)), .ow (nD (com cs a b)), .sh (.int ((t + ((endsN cs).take s).count x : Nat) : Int)), .emp, .emp, .emp, .emp, .emp, .emp]) := by
      generalize (endsN cs).take s = T at *
      simp only [sWq_e, sSet_e, eB_e, eV_e, get_succ, get_zero, wF_sh, wF_ow, bo_some, bd_some, vO_e, fz_e, eCount_e, eSl_e, pN_e, pS_e, eD_e, wK_sh, put_succ, put_zero, intOf_int, look_slot, look_val, w, wD_ow, isList_l, if_true, c, wD_sh, wAdd_ii, wp_cons, wp_nil]
      simp
    rw [tgN_e, bo_some]
    show lp (sWq [11] _ [.pu p qs, .sh (.list (iD cs)), .sh R, .sh (.int (cs.length : Int)), .sh (.int (a : Int)), .sh (.int (b : Int)), .sh (.int (s : Int)), .sh (.list (wayL cs)), .ow (nD (endsN cs)), .ow (nD (com cs a b)), .sh (.int (t : Int)), .sh (.int (x : Int)), .emp, .emp, .emp, .emp, .emp]) _ = _
    rw [step, lp_nx, loop_alike L (t + ((endsN cs).take s).count x)]
    rw [List.map_cons, List.sum_cons, Nat.add_assoc]
end
end Law

set_option Elab.async false
set_option linter.all false
set_option maxRecDepth 100000
set_option maxHeartbeats 4000000
namespace Law
open PySem PySem.Spec PyProof.Rows L2 Z
theorem wAdd_ll (xs ys : List D) (h : xs.length + ys.length < 1000000) : wAdd (.list xs) (.list ys) = some (.ow (xs ++ ys)) := if_pos (smallLen_of h)
theorem Fl1_int (n : Nat) (i : Int) : Fl1 (n + 1) (.int i) := trivial
theorem Fl1_ints (n : Nat) (l : List Nat) (h : l.length < 1000000) : Fl1 (n + 2) (.list (nD l)) := ⟨by simpa using h, fun d m => by
  obtain ⟨x, _, rfl⟩ := List.mem_map.mp m
  trivial⟩
theorem Fl1_iints (n : Nat) (l : List Int) (h : l.length < 1000000) : Fl1 (n + 2) (.list (iD l)) := ⟨by simpa using h, fun d m => by
  obtain ⟨x, _, rfl⟩ := List.mem_map.mp m
  trivial⟩
theorem Fl1_fst (n : Nat) (l : List Nat) : Fl1 (n + 1) (fst l) := by cases l <;> trivial
theorem Fl1_pt (n a b : Nat) : Fl1 (n + 2) (pt a b) := ⟨by simp, fun d m => by
  rcases List.mem_cons.mp m with rfl | m
  · trivial
  · rcases List.mem_cons.mp m with rfl | m
    · trivial
    · cases m⟩
theorem Fl1_lst {n : Nat} {ds : List D} (h : ds.length < 1000000) (k : ∀ d ∈ ds, Fl1 n d) : Fl1 (n + 1) (.list ds) := ⟨h, k⟩
theorem exact_ok {d : D} (h : Fl1 8 d) : F_law_exact [d, d] = some (.sh (.bool true)) := exact_self 8 d h
theorem way_len {cs : List Int} (k : Cnt cs) (p : Nat) : (way cs p).length ≤ cs.length - p := by
  refine way_ind k (Q := fun p => (way cs p).length ≤ cs.length - p) (fun p h => ?_) (fun p h ih => ?_) p
  · rw [way_ge h]; simp
  · have := k.pos _ (List.getElem_mem h)
    rw [way_lt k h, List.length_cons]
    omega
theorem qif_i {cs : List Int} {a b : Nat} (env : Z.Env) (he : Z.get env 9 = .ow (nD (com cs a b))) : eIf (tD (bsc (bB wNe (bV 9) (bLst bN)))) (eB wIx (eV 9) (vO (eC (.int 0)))) (sW (eC .none)) env = some (.sh (fst (com cs a b)), env) := by
  have n1 := ne_nilN (com cs a b)
  have test : tD (bsc (bB wNe (bV 9) (bLst bN))) env = some (!(com cs a b).isEmpty, env) := by
    have h1 : bV 9 env = some (.list (nD (com cs a b))) := by rw [bV_e, he, wD_ow]
    have h2 : bLst bN env = some (.list []) := by simp
    have h3 : bB wNe (bV 9) (bLst bN) env = some (.bool (!(com cs a b).isEmpty)) := by
      rw [bB_e, h1, bo_some, h2, bo_some, n1, bo_some, wD_sh]
    rw [tD_e, bsc_e, h3, bo_some, isSc_b, if_pos rfl, bd_some, gTr_bool, bo_some]
  rw [eIf_e, test, bd_some]
  cases hc : com cs a b with
  | nil => simp [fst]
  | cons x r =>
    rw [hc] at he
    have this : wIx (.list (nD (x :: r))) (.int 0) = some (.sh (.int (x : Int))) := wIx_nat (nD (x :: r)) 0 (by simp)
    have e1 : eV 9 env = some (.slot 9, env) := by rw [eV_e, he, wF_ow, bo_some]
    rw [if_pos (by simp)]
    exact eB_v e1 (by simp; rfl) (by rw [look_slot, he, wF_ow]) (by rw [look_val]) this
theorem case_right_i {M : Nat} {ps : List D} (h : POk (M + 60) ps) : ∃ ps', F_law_case_right ps [] = some (.sh (.bool true), ps') ∧ POk M ps' := by
  obtain ⟨cs, ps1, f1, k, hne, few, big, k1⟩ := law_counts_i (M := M + 18) 40 (by decide) (by decide) h
  have hlen : 0 < cs.length := List.length_pos_iff.mpr hne
  have f1 : F_law_counts ps [.int 40] = some (.ow (iD cs), ps1) := f1
  obtain ⟨ra, ps2, f2, a0, a1, k2⟩ := draw_n (M := M + 17) (cs.length : Int) (by omega) (by omega) k1
  obtain ⟨rb, ps3, f3, b0, b1, k3⟩ := draw_n (M := M + 16) (cs.length : Int) (by omega) (by omega) k2
  obtain ⟨rs, ps4, f4, s0, s1, k4⟩ := draw_n (M := M + 15) (cs.length : Int) (by omega) (by omega) k3
  obtain ⟨a, rfl⟩ := Int.eq_ofNat_of_zero_le a0
  obtain ⟨b, rfl⟩ := Int.eq_ofNat_of_zero_le b0
  obtain ⟨s, hsv⟩ : ∃ s : Nat, 1 + rs = (s : Int) := ⟨(1 + rs).toNat, by omega⟩
  have ha : a < cs.length := by omega
  have hb : b < cs.length := by omega
  have hs : 0 < s := by omega
  have hl : s ≤ cs.length := by omega
  refine ⟨ps4, runU_eq fun p => ?_, k4.less (by omega)⟩
  -- repr
  obtain ⟨R, hR⟩ : ∃ R : Str, wRepr (.list (iD cs)) = some (.sh (.str R)) := ⟨_, repr_ints (fun c hc => by
    have h1 := k.pos c hc
    have h2 := big c hc
    have : c.natAbs.log2 < 41 := log2_lt (by decide) (by omega)
    omega) (by omega)⟩
  have hss : 0 < s * s := Nat.mul_pos hs hs
  have hs2 : s * s ≤ 40 * 40 := Nat.mul_le_mul (by omega) (by omega)
  have g1 := loop_ways k hne p ps4 (.str R) (a := a) (b := b) (s := s)
  have g2 := loop_ends k p ps4 (.str R) (a := a) (b := b) (s := s)
  have g3 := loop_com k p ps4 (.str R) (s := s) ha hb
  have g4 := loop_alike p ps4 (.str R) (cs := cs) (a := a) (b := b) hs hl ((endsN cs).take s) 0
  have g5 := wayL_ix cs ha
  have e1 := endsN_ix cs ha
  have e2 := endsN_ix cs hb
  have t1 := sl_take (nD (endsN cs)) s
  rw [take_nD] at t1
  have r1 := rngI_1 cs.length (by omega)
  have v1 := way_from_i k ha
  have v2 := ends_of_i k
  have v3 := first_common_i k ha hb
  have v4 := alike_i k (by omega) hs hl
  have v5 := law_part_i (alk ((endsN cs).take s)) (s * s) hss (by omega)
  have v6 := mul_n s s (by omega) (by omega)
  have n1 := ne_nilN (com cs a b)
  have w1 : (way cs a).length ≤ 1000 := by have := way_len k a; omega
  have w2 : (endsN cs).length ≤ 1000 := by simp; omega
  -- what is due
  have x1 : F_law_exact [.list [.list [.list (nD (way cs a)), .list (nD (endsN cs)), fst (com cs a b), pt (alk ((endsN cs).take s)) (s * s)], .list [.list (nD (way cs a)), .list (nD (endsN cs)), fst (com cs a b), pt (alk ((endsN cs).take s)) (s * s)]],
      .list [.list [.list (nD (way cs a)), .list (nD (endsN cs)), fst (com cs a b), pt (alk ((endsN cs).take s)) (s * s)], .list [.list (nD (way cs a)), .list (nD (endsN cs)), fst (com cs a b), pt (alk ((endsN cs).take s)) (s * s)]]] = some (.sh (.bool true)) := exact_ok (by
    have hX : Fl1 7 (.list [.list (nD (way cs a)), .list (nD (endsN cs)), fst (com cs a b), pt (alk ((endsN cs).take s)) (s * s)]) := Fl1_lst (by simp) fun d m => by
      simp only [List.mem_cons, List.not_mem_nil, or_false] at m
      rcases m with rfl | rfl | rfl | rfl
      · exact Fl1_ints 4 _ (by omega)
      · exact Fl1_ints 4 _ (by omega)
      · exact Fl1_fst 5 _
      · exact Fl1_pt 4 _ _
    exact Fl1_lst (by simp) fun d m => by
      simp only [List.mem_cons, List.not_mem_nil, or_false, or_self] at m
      rw [m]; exact hX)
  have x2 : F_law_exact [.list [.list (nD (way cs a)), .list (nD (endsN cs))], .list [.list (nD (way cs a)), .list (nD (endsN cs))]] = some (.sh (.bool true)) := exact_ok (Fl1_lst (by simp) fun d m => by
    simp only [List.mem_cons, List.not_mem_nil, or_false] at m
    rcases m with rfl | rfl
    · exact Fl1_ints 5 _ (by omega)
    · exact Fl1_ints 5 _ (by omega))
  have nn : (isNon (fst (com cs a b)) != ((end_ cs a : Int) != (end_ cs b : Int))) = false := by
    have c := com_ends k ha hb
    cases hc : com cs a b with
    | nil =>
      have c := c.mp hc
      have : ¬ (end_ cs a : Int) = (end_ cs b : Int) := fun z => c (Int.ofNat_inj.mp z)
      simp [fst, this]
    | cons x r =>
      have : end_ cs a = end_ cs b := by
        by_cases z : end_ cs a = end_ cs b
        · exact z
        · have := c.mpr z; rw [hc] at this; cases this
      simp [fst, this]
  rw [Nat.zero_add, show (List.map (fun x => List.count x (List.take s (endsN cs))) (List.take s (endsN cs))).sum = alk (List.take s (endsN cs)) from rfl] at g4
  have hC : (iD cs).length = cs.length := iD_len cs
  have lw : (nD (way cs a)).length < 1000000 := by simp; omega
  have le : (nD (endsN cs)).length < 1000000 := by rw [List.length_map]; omega
  rw [show ((0 : Nat) : Int) = 0 from rfl] at g4
  have qif := qif_i (cs := cs) (a := a) (b := b)
  have cut2 : ∀ x y z u : D, wSl (.list [x, y, z, u]) none (some 2) = some (.ow [x, y]) := fun _ _ _ _ => rfl
  generalize alk (List.take s (endsN cs)) = AL at *
  generalize nD (List.take s (endsN cs)) = T at *
  generalize fst (com cs a b) = fc at *
  generalize pt AL (s * s) = P at *
  generalize nD (com cs a b) = CC at *
  generalize nD (way cs a) = WA at *
  generalize nD (endsN cs) = EE at *
  generalize wayL cs = WL at *
  generalize iD cs = C at *
  generalize cs.length = n at *
  generalize s * s = ss at *
  have st0 : (sSet 1 (eP 0 F_law_counts (adC (eC (.int 40)) adN))) [.pu p ps, .emp, .emp, .emp, .emp, .emp, .emp, .emp, .emp, .emp, .emp, .emp, .emp, .emp, .emp, .emp, .emp] = some (.nx, [.pu p ps1, .ow C, .emp, .emp, .emp, .emp, .emp, .emp, .emp, .emp, .emp, .emp, .emp, .emp, .emp, .emp, .emp]) := by
    simp [f1]
  have st1 : (sPar 2 3 (adC (bsc (bCB (c1 wRepr) (bCs (bV 1) bN))) (adC (bsc (bCB (c1 wLen) (bCs (bV 1) bN))) adN))) [.pu p ps1, .ow C, .emp, .emp, .emp, .emp, .emp, .emp, .emp, .emp, .emp, .emp, .emp, .emp, .emp, .emp, .emp] = some (.nx, [.pu p ps1, .ow C, .sh (.str R), .sh (.int (n : Int)), .emp, .emp, .emp, .emp, .emp, .emp, .emp, .emp, .emp, .emp, .emp, .emp, .emp]) := by
    simp [hR, hC]
  have st2 : (sAsg (tgU 3 (tgC (tgN 4) (tgC (tgN 5) (tgC (tgN 6) tgZ)))) (fz (eTup (adC (fz (eP 0 F_law_draw (adC (eD 3) adN))) (adC (fz (eP 0 F_law_draw (adC (eD 3) adN))) (adC (fz (eB wAdd (vO (eC (.int 1))) (vO (fz (eP 0 F_law_draw (adC (eD 3) adN)))))) adN)))))) [.pu p ps1, .ow C, .sh (.str R), .sh (.int (n : Int)), .emp, .emp, .emp, .emp, .emp, .emp, .emp, .emp, .emp, .emp, .emp, .emp, .emp] = some (.nx, [.pu p ps4, .ow C, .sh (.str R), .sh (.int (n : Int)), .sh (.int (a : Int)), .sh (.int (b : Int)), .sh (.int (s : Int)), .emp, .emp, .emp, .emp, .emp, .emp, .emp, .emp, .emp, .emp]) := by
    simp [f2, f3, f4, hsv]
  have st3 : (sSet 7 (eLc (iR1 (aC (eV 3) aN)) (tgN 15) tYs (fz (eF F_law_way (adC (eD 1) (adC (eD 15) adN)))) [15])) [.pu p ps4, .ow C, .sh (.str R), .sh (.int (n : Int)), .sh (.int (a : Int)), .sh (.int (b : Int)), .sh (.int (s : Int)), .emp, .emp, .emp, .emp, .emp, .emp, .emp, .emp, .emp, .emp] = some (.nx, [.pu p ps4, .sh (.list C), .sh (.str R), .sh (.int (n : Int)), .sh (.int (a : Int)), .sh (.int (b : Int)), .sh (.int (s : Int)), .ow WL, .emp, .emp, .emp, .emp, .emp, .emp, .emp, .emp, .emp]) := by
    simp [r1, g1]
  have st4 : (sSet 8 (eLc (iS (eD 7)) (tgN 16) tYs (fz (eB wIx (eV 16) (vO (fz (eU wNeg (vO (eC (.int 1)))))))) [16])) [.pu p ps4, .sh (.list C), .sh (.str R), .sh (.int (n : Int)), .sh (.int (a : Int)), .sh (.int (b : Int)), .sh (.int (s : Int)), .ow WL, .emp, .emp, .emp, .emp, .emp, .emp, .emp, .emp, .emp] = some (.nx, [.pu p ps4, .sh (.list C), .sh (.str R), .sh (.int (n : Int)), .sh (.int (a : Int)), .sh (.int (b : Int)), .sh (.int (s : Int)), .sh (.list WL), .ow EE, .emp, .emp, .emp, .emp, .emp, .emp, .emp, .emp]) := by
    simp [g2]
  have st5 : (sSet 9 (eLc (iS (fz (eB wIx (eV 7) (eV 4)))) (tgN 15) (tD (bsc (bB (wIn false) (bV 15) (bB wIx (bV 7) (bV 5))))) (eD 15) [15])) [.pu p ps4, .sh (.list C), .sh (.str R), .sh (.int (n : Int)), .sh (.int (a : Int)), .sh (.int (b : Int)), .sh (.int (s : Int)), .sh (.list WL), .ow EE, .emp, .emp, .emp, .emp, .emp, .emp, .emp, .emp] = some (.nx, [.pu p ps4, .sh (.list C), .sh (.str R), .sh (.int (n : Int)), .sh (.int (a : Int)), .sh (.int (b : Int)), .sh (.int (s : Int)), .sh (.list WL), .ow EE, .ow CC, .emp, .emp, .emp, .emp, .emp, .emp, .emp]) := by
    simp [g5, g3]
  have st6 : (sSet 10 (sW (eC (.int 0)))) [.pu p ps4, .sh (.list C), .sh (.str R), .sh (.int (n : Int)), .sh (.int (a : Int)), .sh (.int (b : Int)), .sh (.int (s : Int)), .sh (.list WL), .ow EE, .ow CC, .emp, .emp, .emp, .emp, .emp, .emp, .emp] = some (.nx, [.pu p ps4, .sh (.list C), .sh (.str R), .sh (.int (n : Int)), .sh (.int (a : Int)), .sh (.int (b : Int)), .sh (.int (s : Int)), .sh (.list WL), .ow EE, .ow CC, .sh (.int 0), .emp, .emp, .emp, .emp, .emp, .emp]) := by
    simp
  have st7 : (sFor (iS (fz (eSl wSl (eV 8) pN (pS (eD 6))))) (tgN 11) (sWq [11] (sSet 10 (eB wAdd (eV 10) (vO (fz (eCount (vO (fz (eSl wSl (eV 8) pN (pS (eD 6))))) (eV 11)))))))) [.pu p ps4, .sh (.list C), .sh (.str R), .sh (.int (n : Int)), .sh (.int (a : Int)), .sh (.int (b : Int)), .sh (.int (s : Int)), .sh (.list WL), .ow EE, .ow CC, .sh (.int 0), .emp, .emp, .emp, .emp, .emp, .emp] = some (.nx, [.pu p ps4, .sh (.list C), .sh (.str R), .sh (.int (n : Int)), .sh (.int (a : Int)), .sh (.int (b : Int)), .sh (.int (s : Int)), .sh (.list WL), .ow EE, .ow CC, .sh (.int (AL : Int)), .emp, .emp, .emp, .emp, .emp, .emp]) := by
    simp [t1, g4]
  have st8 : (sSet 12 (eLst (adC (fz (eB wIx (eV 7) (eV 4))) (adC (eD 8) (adC (fz (eIf (tD (bsc (bB wNe (bV 9) (bLst bN)))) (eB wIx (eV 9) (vO (eC (.int 0)))) (sW (eC .none)))) (adC (fz (eF F_law_part (adC (eD 10) (adC (fz (eB wMul (eV 6) (eV 6))) adN)))) adN)))))) [.pu p ps4, .sh (.list C), .sh (.str R), .sh (.int (n : Int)), .sh (.int (a : Int)), .sh (.int (b : Int)), .sh (.int (s : Int)), .sh (.list WL), .ow EE, .ow CC, .sh (.int (AL : Int)), .emp, .emp, .emp, .emp, .emp, .emp] = some (.nx, [.pu p ps4, .sh (.list C), .sh (.str R), .sh (.int (n : Int)), .sh (.int (a : Int)), .sh (.int (b : Int)), .sh (.int (s : Int)), .sh (.list WL), .sh (.list EE), .ow CC, .sh (.int (AL : Int)), .emp, .ow [.list WA, .list EE, fc, P], .emp, .emp, .emp, .emp]) := by
    simp [-eIf_e, g5, v5, v6, qif]
  have st9 : (sSet 13 (eNest (nC (eF F_way_from (adC (eD 1) (adC (eD 4) adN))) (nC (eF F_ends_of (adC (eD 1) adN)) (nC (eF F_first_common (adC (eD 1) (adC (eD 4) (adC (eD 5) adN)))) (nC (eF F_alike_share (adC (eD 1) (adC (eD 6) adN))) nN)))))) [.pu p ps4, .sh (.list C), .sh (.str R), .sh (.int (n : Int)), .sh (.int (a : Int)), .sh (.int (b : Int)), .sh (.int (s : Int)), .sh (.list WL), .sh (.list EE), .ow CC, .sh (.int (AL : Int)), .emp, .ow [.list WA, .list EE, fc, P], .emp, .emp, .emp, .emp] = some (.nx, [.pu p ps4, .sh (.list C), .sh (.str R), .sh (.int (n : Int)), .sh (.int (a : Int)), .sh (.int (b : Int)), .sh (.int (s : Int)), .sh (.list WL), .sh (.list EE), .ow CC, .sh (.int (AL : Int)), .emp, .ow [.list WA, .list EE, fc, P], .nest [.ow WA, .ow EE, .sh fc, .sh P], .emp, .emp, .emp]) := by
    simp [v1, v2, v3, v4]
  have st10 : (sSet 14 (eLst (adC (fz (eFK F_way_from 2 [1, 0] (adC (eD 4) (adC (eD 1) adN)))) (adC (fz (eFK F_ends_of 1 [0] (adC (eD 1) adN))) adN)))) [.pu p ps4, .sh (.list C), .sh (.str R), .sh (.int (n : Int)), .sh (.int (a : Int)), .sh (.int (b : Int)), .sh (.int (s : Int)), .sh (.list WL), .sh (.list EE), .ow CC, .sh (.int (AL : Int)), .emp, .ow [.list WA, .list EE, fc, P], .nest [.ow WA, .ow EE, .sh fc, .sh P], .emp, .emp, .emp] = some (.nx, [.pu p ps4, .sh (.list C), .sh (.str R), .sh (.int (n : Int)), .sh (.int (a : Int)), .sh (.int (b : Int)), .sh (.int (s : Int)), .sh (.list WL), .sh (.list EE), .ow CC, .sh (.int (AL : Int)), .emp, .ow [.list WA, .list EE, fc, P], .nest [.ow WA, .ow EE, .sh fc, .sh P], .ow [.list WA, .list EE], .emp, .emp]) := by
    simp [v1, v2, pick]
  have st11 : (sSet 14 (eB wAdd (eV 14) (vO (fz (eLst (adC (fz (eFK F_first_common 3 [2, 1, 0] (adC (eD 5) (adC (eD 4) (adC (eD 1) adN))))) adN)))))) [.pu p ps4, .sh (.list C), .sh (.str R), .sh (.int (n : Int)), .sh (.int (a : Int)), .sh (.int (b : Int)), .sh (.int (s : Int)), .sh (.list WL), .sh (.list EE), .ow CC, .sh (.int (AL : Int)), .emp, .ow [.list WA, .list EE, fc, P], .nest [.ow WA, .ow EE, .sh fc, .sh P], .ow [.list WA, .list EE], .emp, .emp] = some (.nx, [.pu p ps4, .sh (.list C), .sh (.str R), .sh (.int (n : Int)), .sh (.int (a : Int)), .sh (.int (b : Int)), .sh (.int (s : Int)), .sh (.list WL), .sh (.list EE), .ow CC, .sh (.int (AL : Int)), .emp, .ow [.list WA, .list EE, fc, P], .nest [.ow WA, .ow EE, .sh fc, .sh P], .ow [.list WA, .list EE, fc], .emp, .emp]) := by
    simp [v3, pick, wAdd_ll]
  have st12 : (sDrop (eApp 14 (fz (eFK F_alike_share 2 [1, 0] (adC (eD 6) (adC (eD 1) adN)))))) [.pu p ps4, .sh (.list C), .sh (.str R), .sh (.int (n : Int)), .sh (.int (a : Int)), .sh (.int (b : Int)), .sh (.int (s : Int)), .sh (.list WL), .sh (.list EE), .ow CC, .sh (.int (AL : Int)), .emp, .ow [.list WA, .list EE, fc, P], .nest [.ow WA, .ow EE, .sh fc, .sh P], .ow [.list WA, .list EE, fc], .emp, .emp] = some (.nx, [.pu p ps4, .sh (.list C), .sh (.str R), .sh (.int (n : Int)), .sh (.int (a : Int)), .sh (.int (b : Int)), .sh (.int (s : Int)), .sh (.list WL), .sh (.list EE), .ow CC, .sh (.int (AL : Int)), .emp, .ow [.list WA, .list EE, fc, P], .nest [.ow WA, .ow EE, .sh fc, .sh P], .ow [.list WA, .list EE, fc, P], .emp, .emp]) := by
    simp [v4, pick, smallLen_of]
  have st13 : (sIf (tOr' (tNo (tD (bsc (bCB F_law_exact (bCs (bLst (bCs (bV 12) (bCs (bV 12) bN))) (bCs (bLst (bCs (bV 13) (bCs (bV 14) bN))) bN)))))) (tD (bsc (bB wNe (bB wIsN (bB wIx (bV 12) (bC (.int 2))) (bC .none)) (bB wNe (bB wIx (bV 8) (bV 4)) (bB wIx (bV 8) (bV 5))))))) (sRet (sW (eC (.bool false)))) sNx) [.pu p ps4, .sh (.list C), .sh (.str R), .sh (.int (n : Int)), .sh (.int (a : Int)), .sh (.int (b : Int)), .sh (.int (s : Int)), .sh (.list WL), .sh (.list EE), .ow CC, .sh (.int (AL : Int)), .emp, .ow [.list WA, .list EE, fc, P], .nest [.ow WA, .ow EE, .sh fc, .sh P], .ow [.list WA, .list EE, fc, P], .emp, .emp] = some (.nx, [.pu p ps4, .sh (.list C), .sh (.str R), .sh (.int (n : Int)), .sh (.int (a : Int)), .sh (.int (b : Int)), .sh (.int (s : Int)), .sh (.list WL), .sh (.list EE), .ow CC, .sh (.int (AL : Int)), .emp, .ow [.list WA, .list EE, fc, P], .nest [.ow WA, .ow EE, .sh fc, .sh P], .ow [.list WA, .list EE, fc, P], .emp, .emp]) := by
    simp [x1, wIs, ix4_2, e1, e2, nn]
  have st14 : (sDrop (eAppK 13 0 (.str "more"))) [.pu p ps4, .sh (.list C), .sh (.str R), .sh (.int (n : Int)), .sh (.int (a : Int)), .sh (.int (b : Int)), .sh (.int (s : Int)), .sh (.list WL), .sh (.list EE), .ow CC, .sh (.int (AL : Int)), .emp, .ow [.list WA, .list EE, fc, P], .nest [.ow WA, .ow EE, .sh fc, .sh P], .ow [.list WA, .list EE, fc, P], .emp, .emp] = some (.nx, [.pu p ps4, .sh (.list C), .sh (.str R), .sh (.int (n : Int)), .sh (.int (a : Int)), .sh (.int (b : Int)), .sh (.int (s : Int)), .sh (.list WL), .sh (.list EE), .ow CC, .sh (.int (AL : Int)), .emp, .ow [.list WA, .list EE, fc, P], .nest [.ow (WA ++ [.str "more"]), .ow EE, .sh fc, .sh P], .ow [.list WA, .list EE, fc, P], .emp, .emp]) := by
    simp [nUp, smallLen_of lw]
  have st15 : (sDrop (eAppK 13 1 (.str "more"))) [.pu p ps4, .sh (.list C), .sh (.str R), .sh (.int (n : Int)), .sh (.int (a : Int)), .sh (.int (b : Int)), .sh (.int (s : Int)), .sh (.list WL), .sh (.list EE), .ow CC, .sh (.int (AL : Int)), .emp, .ow [.list WA, .list EE, fc, P], .nest [.ow (WA ++ [.str "more"]), .ow EE, .sh fc, .sh P], .ow [.list WA, .list EE, fc, P], .emp, .emp] = some (.nx, [.pu p ps4, .sh (.list C), .sh (.str R), .sh (.int (n : Int)), .sh (.int (a : Int)), .sh (.int (b : Int)), .sh (.int (s : Int)), .sh (.list WL), .sh (.list EE), .ow CC, .sh (.int (AL : Int)), .emp, .ow [.list WA, .list EE, fc, P], .nest [.ow (WA ++ [.str "more"]), .ow (EE ++ [.str "more"]), .sh fc, .sh P], .ow [.list WA, .list EE, fc, P], .emp, .emp]) := by
    simp [nUp, smallLen_of le]
  have st16 : (sRet (sW (bsc (bAn (bCB F_law_exact (bCs (bSl (bV 12) bON (bOI (bC (.int 2)))) (bCs (bLst (bCs (bCB F_way_from (bCs (bV 1) (bCs (bV 4) bN))) (bCs (bCB F_ends_of (bCs (bV 1) bN)) bN))) bN))) (bB wEq (bCB (c1 wRepr) (bCs (bV 1) bN)) (bV 2)))))) [.pu p ps4, .sh (.list C), .sh (.str R), .sh (.int (n : Int)), .sh (.int (a : Int)), .sh (.int (b : Int)), .sh (.int (s : Int)), .sh (.list WL), .sh (.list EE), .ow CC, .sh (.int (AL : Int)), .emp, .ow [.list WA, .list EE, fc, P], .nest [.ow (WA ++ [.str "more"]), .ow (EE ++ [.str "more"]), .sh fc, .sh P], .ow [.list WA, .list EE, fc, P], .emp, .emp] = some (.rt (.sh (.bool true)), [.pu p ps4, .sh (.list C), .sh (.str R), .sh (.int (n : Int)), .sh (.int (a : Int)), .sh (.int (b : Int)), .sh (.int (s : Int)), .sh (.list WL), .sh (.list EE), .ow CC, .sh (.int (AL : Int)), .emp, .ow [.list WA, .list EE, fc, P], .nest [.ow (WA ++ [.str "more"]), .ow (EE ++ [.str "more"]), .sh fc, .sh P], .ow [.list WA, .list EE, fc, P], .emp, .emp]) := by
    simp [x2, v1, v2, hR, cut2]
  have all : b_law_case_right [.pu p ps, .emp, .emp, .emp, .emp, .emp, .emp, .emp, .emp, .emp, .emp, .emp, .emp, .emp, .emp, .emp, .emp] = some (.rt (.sh (.bool true)), [.pu p ps4, .sh (.list C), .sh (.str R), .sh (.int (n : Int)), .sh (.int (a : Int)), .sh (.int (b : Int)), .sh (.int (s : Int)), .sh (.list WL), .sh (.list EE), .ow CC, .sh (.int (AL : Int)), .emp, .ow [.list WA, .list EE, fc, P], .nest [.ow (WA ++ [.str "more"]), .ow (EE ++ [.str "more"]), .sh fc, .sh P], .ow [.list WA, .list EE, fc, P], .emp, .emp]) := by
    unfold b_law_case_right
    rw [sSeq_e, st0, sq_nx, sSeq_e, st1, sq_nx, sSeq_e, st2, sq_nx, sSeq_e, st3, sq_nx, sSeq_e, st4, sq_nx, sSeq_e, st5, sq_nx, sSeq_e, st6, sq_nx, sSeq_e, st7, sq_nx, sSeq_e, st8, sq_nx, sSeq_e, st9, sq_nx, sSeq_e, st10, sq_nx, sSeq_e, st11, sq_nx, sSeq_e, st12, sq_nx, sSeq_e, st13, sq_nx, sSeq_e, st14, sq_nx, sSeq_e, st15, sq_nx, st16]
  show runP 1 17 b_law_case_right p ps [] = _
  unfold runP
  rw [if_pos (show ([] : List D).length + 1 = 1 from rfl)]
  show (match b_law_case_right [.pu p ps, .emp, .emp, .emp, .emp, .emp, .emp, .emp, .emp, .emp, .emp, .emp, .emp, .emp, .emp, .emp, .emp] with
    | some (.rt w, e) => bo (wP (Z.get e 0)) fun q => if q.1 = p then some (w, q.2) else none
    | some (.nx, e) => bo (wP (Z.get e 0)) fun q => if q.1 = p then some (.sh .none, q.2) else none
    | _ => none) = _
  rw [all]
  simp
end Law

set_option Elab.async false
set_option linter.all false
set_option maxRecDepth 100000
set_option maxHeartbeats 4000000
namespace Law
open PySem PySem.Spec PyProof.Rows L2 Z
theorem perm_ints {es : List D} {L : List Int} (h : es.Perm (iD L)) : ∃ ns : List Int, es = iD ns ∧ ns.Perm L := by
  have m : ∀ e ∈ es, ∃ i : Int, e = .int i := fun e he => by
    obtain ⟨i, _, z⟩ := List.mem_map.mp (h.mem_iff.mp he)
    exact ⟨i, z.symm⟩
  have key : ∀ es : List D, (∀ e ∈ es, ∃ i : Int, e = .int i) → ∃ ns : List Int, es = iD ns := fun es => by
    induction es with
    | nil => exact fun _ => ⟨[], rfl⟩
    | cons e r ih =>
      intro m
      obtain ⟨i, rfl⟩ := m e List.mem_cons_self
      obtain ⟨ns, rfl⟩ := ih fun e he => m e (List.mem_cons_of_mem _ he)
      exact ⟨i :: ns, rfl⟩
  obtain ⟨ns, rfl⟩ := key es m
  refine ⟨ns, rfl, ?_⟩
  have h2 := h.map fun d : D => match d with
    | .int i => i
    | _ => 0
  have e : ∀ l : List Int, (iD l).map (fun d : D => match d with
    | .int i => i
    | _ => 0) = l := fun l => by
    induction l with
    | nil => rfl
    | cons i r ih => rw [show iD (i :: r) = .int i :: iD r from rfl, List.map_cons, ih]
  rw [e, e] at h2
  exact h2
theorem rng_iD (n : Nat) : rng 0 n = iD ((List.range n).map fun i : Nat => (i : Int)) := by
  unfold rng
  show _ = List.map PyData.int (List.map (fun i : Nat => (i : Int)) (List.range n))
  rw [List.map_map]
  apply List.map_congr_left
  intro x _
  simp
theorem range_nodup (n : Nat) : ((List.range n).map fun i : Nat => (i : Int)).Nodup := by
  exact List.pairwise_map.mpr (List.nodup_range.imp fun h z => h (Int.ofNat_inj.mp z))
theorem repr_two {a b : List Int} (ha : ∀ n ∈ a, n.natAbs.log2 < 100) (hb : ∀ n ∈ b, n.natAbs.log2 < 100) (la : a.length ≤ 2000) (lb : b.length ≤ 2000) : ∃ R : Str, wRepr (.list [.list (iD a), .list (iD b)]) = some (.sh (.str R)) := by
  have s1 : szDs (iD a) ≤ a.length * (100 + 4) := szDs_ints ha
  have s2 : szDs (iD b) ≤ b.length * (100 + 4) := szDs_ints hb
  have d1 : PyData.depth (.list [.list (iD a), .list (iD b)]) < 50 := by
    show max (PyData.depthAll (iD a) + 1) (max (PyData.depthAll (iD b) + 1) 0) + 1 < 50
    rw [depth_ints, depth_ints]; decide
  have p1 : plD (.list [.list (iD a), .list (iD b)]) = true := by
    show (plDs (iD a) && (plDs (iD b) && true)) = true
    rw [plDs_ints fun n m => by have := ha n m; omega, plDs_ints fun n m => by have := hb n m; omega]; rfl
  have z1 : szD (.list [.list (iD a), .list (iD b)]) ≤ 1000000 := by
    show 2 + (2 + szDs (iD a) + 2 + (2 + szDs (iD b) + 2 + 0)) ≤ 1000000
    have := Nat.mul_le_mul_right (100 + 4) la
    have := Nat.mul_le_mul_right (100 + 4) lb
    omega
  exact ⟨_, if_pos (shown_ok p1 d1 z1)⟩
theorem values_i {M : Nat} {ps : List D} (n : Nat) (h : POk (M + n) ps) : ∃ vs ps', (∀ p : Addr, cLoop (tgN 6) tYs (fz (eB wAdd (vO (eC (.int 1))) (vO (fz (eP 0 F_law_draw (adC (eC (.int 12)) adN)))))) [6] (rng 0 n) [] [.pu p ps, .emp, .emp, .emp, .emp, .emp, .emp, .emp] = some (iD vs, [.pu p ps', .emp, .emp, .emp, .emp, .emp, .emp, .emp])) ∧ vs.length = n ∧ (∀ v ∈ vs, 1 ≤ v ∧ v ≤ 12) ∧ POk M ps' := by
  obtain ⟨ys, e', c1, c2, c3⟩ := cLoopP_inv (tg := tgN 6) (fe := fz (eB wAdd (vO (eC (.int 1))) (vO (fz (eP 0 F_law_draw (adC (eC (.int 12)) adN)))))) (vs := [6]) (fun acc e => ∃ cs qs, acc = iD cs ∧ (∀ c ∈ cs, 1 ≤ c ∧ c ≤ 12) ∧ POk (M + (n - acc.length)) qs ∧ e = fun p => [.pu p qs, .emp, .emp, .emp, .emp, .emp, .emp, .emp]) n (ds := rng 0 n) (acc := []) (e := fun p => [.pu p ps, .emp, .emp, .emp, .emp, .emp, .emp, .emp])
    (by rw [rng_len]; simp) ⟨[], ps, rfl, by simp, h.less (by simp), rfl⟩ fun d hd acc e i hlt => by
    obtain ⟨cs, qs, rfl, i1, i2, rfl⟩ := i
    obtain ⟨j, hj, rfl⟩ := rng_mem hd
    rw [iD_len] at i2 hlt
    obtain ⟨x, qs', g1, g2, g3, g4⟩ := draw_n (M := M + (n - (cs.length + 1))) 12 (by omega) (by omega) (i2.less (by omega))
    refine ⟨fun p => [.pu p qs, .emp, .emp, .emp, .emp, .emp, .sh (.int (0 + (j : Int))), .emp], .int (1 + x), fun p => [.pu p qs', .emp, .emp, .emp, .emp, .emp, .sh (.int (0 + (j : Int))), .emp], fun p => rfl, fun p => ?_, cs ++ [1 + x], qs', by simp [iD], fun c hc => ?_, by simpa using g4, rfl⟩
    · simp [g1]
    · rcases List.mem_append.mp hc with hc | hc
      · exact i1 c hc
      · rw [List.mem_singleton.mp hc]; exact ⟨by omega, by omega⟩
  obtain ⟨cs, qs, rfl, i1, i2, rfl⟩ := c2
  rw [iD_len] at c3
  exact ⟨cs, qs, c1, c3, i1, i2.less (by omega)⟩
theorem pack_right_i {M : Nat} {ps : List D} (h : POk (M + 100) ps) : ∃ ps', F_law_pack_right ps [] = some (.sh (.bool true), ps') ∧ POk M ps' := by
  obtain ⟨q, ps1, f1, q0, q1, k1⟩ := draw_n (M := M + 99) 13 (by omega) (by omega) h
  obtain ⟨n, hn⟩ : ∃ n : Nat, 1 + q = (n : Int) := ⟨(1 + q).toNat, by omega⟩
  obtain ⟨vs, ps2, g1, hv, bv, k2⟩ := values_i (M := M + 70) n (k1.less (by omega))
  obtain ⟨es, ps3, f3, pm, k3⟩ := shuffled_i (M := M + 10) (rng 0 60) (by rw [rng_len]; omega) (k2.less (by rw [rng_len]; omega))
  obtain ⟨r, ps4, f4, r0, r1', k4⟩ := draw_n (M := M + 9) 30 (by omega) (by omega) k3
  rw [rng_iD] at pm
  obtain ⟨ns, rfl, pn⟩ := perm_ints pm
  obtain ⟨t, rfl⟩ := Int.eq_ofNat_of_zero_le r0
  refine ⟨ps4, runU_eq fun p => ?_, k4.less (by omega)⟩
  have kv : Cnt vs := ⟨fun v hm => (bv v hm).1, by omega⟩
  have vne : vs ≠ [] := by
    intro e
    rw [e] at hv
    simp at hv
    omega
  have nlen : ns.length = 60 := by rw [pn.length_eq]; simp
  have nall : ∀ x ∈ ns.take t, 0 ≤ x ∧ x < 60 := fun x hx => by
    have hx := pn.mem_iff.mp (List.mem_of_mem_take hx)
    obtain ⟨i, hi, rfl⟩ := List.mem_map.mp hx
    have := List.mem_range.mp hi
    exact ⟨by omega, by omega⟩
  have nnd : (ns.take t).Nodup := ((pn.nodup_iff).mpr (range_nodup 60)).sublist (List.take_sublist t ns)
  have nl : (ns.take t).length ≤ 60 := by rw [List.length_take]; omega
  have r1 := rngI_1 n (by omega)
  have t1 := sl_take (iD ns) t
  rw [show (iD ns).take t = iD (ns.take t) by simp [iD, List.map_take]] at t1
  have lr : Z.inR 60 = true := inR_iff.mpr ⟨by omega, by omega⟩
  have lr2 : rng 0 (60 : Int).toNat = iD ((List.range 60).map fun i : Nat => (i : Int)) := rng_iD 60
  obtain ⟨R, hR⟩ := repr_two (a := ns.take t) (b := vs) (fun x hx => by
    have := nall x hx
    have : x.natAbs.log2 < 10 := log2_lt (by decide) (by omega)
    omega) (fun x hx => by
    have := bv x hx
    have : x.natAbs.log2 < 10 := log2_lt (by decide) (by omega)
    omega) (by omega) (by omega)
  have cp := counts_of_pack_i (ns := ns.take t) (vs := vs) (fun x hx => (nall x hx).1) nnd (by omega) kv vne
  have g2 : cLoop (tgN 7) tYs (fz (eB wIx (eV 1) (vO (fz (eB wMod (eV 7) (vO (bsc (bCB (c1 wLen) (bCs (bV 1) bN))))))))) [7] (iD (ns.take t)) [] [.pu p ps4, .ow (iD vs), .sh (.list (iD (ns.take t))), .emp, .emp, .emp, .emp, .emp] = some (iD ((ns.take t).map (byc vs)), [.pu p ps4, .ow (iD vs), .sh (.list (iD (ns.take t))), .emp, .emp, .emp, .emp, .emp]) := by
    rw [cLoop_map (g := fun d => match d with
      | .int n => .int (byc vs n)
      | d => d) fun d hd => ?_]
    · rw [List.nil_append]; simp only [iD, List.map_map]; rfl
    · obtain ⟨x, hx, rfl⟩ := List.mem_map.mp hd
      obtain ⟨b1, b2⟩ := byc_i vne x
      refine ⟨[.pu p ps4, .ow (iD vs), .sh (.list (iD (ns.take t))), .emp, .emp, .emp, .emp, .sh (.int x)], [.pu p ps4, .ow (iD vs), .sh (.list (iD (ns.take t))), .emp, .emp, .emp, .emp, .sh (.int x)], by simp, ?_, by simp⟩
      have hlen : (iD vs).length = vs.length := iD_len vs
      generalize iD vs = V at *
      generalize iD (ns.take t) = N at *
      simp [b1, b2, hlen]
  have lb : (iD ((ns.take t).map (byc vs))).length < 1000000 := by rw [iD_len, List.length_map]; omega
  have x2 : F_law_exact [.list (iD ((ns.take t).map (byc vs))), .list (iD ((ns.take t).map (byc vs)))] = some (.sh (.bool true)) := exact_ok (Fl1_iints 6 _ (by rw [List.length_map]; omega))
  have x1 : F_law_exact [.list [.list (iD ((ns.take t).map (byc vs))), .list (iD ((ns.take t).map (byc vs)))], .list [.list (iD ((ns.take t).map (byc vs))), .list (iD ((ns.take t).map (byc vs)))]] = some (.sh (.bool true)) := exact_ok (Fl1_lst (by simp) fun d m => by
    simp only [List.mem_cons, List.not_mem_nil, or_false, or_self] at m
    rw [m]; exact Fl1_iints 5 _ (by rw [List.length_map]; omega))
  rw [rng_iD] at f3
  generalize iD ((List.range 60).map fun i : Nat => (i : Int)) = R60 at *
  generalize iD ((ns.take t).map (byc vs)) = B at *
  generalize iD (ns.take t) = N at *
  generalize iD ns = NN at *
  have g1 := g1 p
  have hV : (iD vs).length = vs.length := iD_len vs
  generalize iD vs = V at *
  have elr : ∀ env : Z.Env, eLR (eC (.int 60)) env = some (.ow R60, env) := fun env => by
    rw [eLR_e, eC_e, bd_some, intOf_int, bo_some, if_pos lr, lr2]
  have st0 : (sSet 1 (eLc (iR1 (aC (vO (fz (eB wAdd (vO (eC (.int 1))) (vO (fz (eP 0 F_law_draw (adC (eC (.int 13)) adN))))))) aN)) (tgN 6) tYs (fz (eB wAdd (vO (eC (.int 1))) (vO (fz (eP 0 F_law_draw (adC (eC (.int 12)) adN)))))) [6])) [.pu p ps, .emp, .emp, .emp, .emp, .emp, .emp, .emp] = some (.nx, [.pu p ps2, .ow V, .emp, .emp, .emp, .emp, .emp, .emp]) := by
    simp [f1, hn, r1, g1]
  have st1 : (sSet 2 (eSl wSl (vO (fz (eP 0 F_law_shuffled (adC (fz (eLR (eC (.int 60)))) adN)))) pN (pS (fz (eP 0 F_law_draw (adC (eC (.int 30)) adN)))))) [.pu p ps2, .ow V, .emp, .emp, .emp, .emp, .emp, .emp] = some (.nx, [.pu p ps4, .ow V, .ow N, .emp, .emp, .emp, .emp, .emp]) := by
    simp [-eLR_e, elr, f3, f4, t1]
  have st2 : (sParN 3 4 (nC (sW (bsc (bCB (c1 wRepr) (bCs (bLst (bCs (bV 2) (bCs (bV 1) bN))) bN)))) (nC (eLc (iS (eD 2)) (tgN 7) tYs (fz (eB wIx (eV 1) (vO (fz (eB wMod (eV 7) (vO (bsc (bCB (c1 wLen) (bCs (bV 1) bN))))))))) [7]) nN))) [.pu p ps4, .ow V, .ow N, .emp, .emp, .emp, .emp, .emp] = some (.nx, [.pu p ps4, .ow V, .sh (.list N), .sh (.str R), .ow B, .emp, .emp, .emp]) := by
    simp [hR, g2]
  have st3 : (sSet 5 (eNest (nC (eF F_counts_of_pack (adC (eD 2) (adC (eD 1) adN))) (nC (eFK F_counts_of_pack 2 [1, 0] (adC (eD 1) (adC (eD 2) adN))) nN)))) [.pu p ps4, .ow V, .sh (.list N), .sh (.str R), .ow B, .emp, .emp, .emp] = some (.nx, [.pu p ps4, .sh (.list V), .sh (.list N), .sh (.str R), .ow B, .nest [.ow B, .ow B], .emp, .emp]) := by
    simp [cp, pick]
  have st4 : (sIf (tNo (tD (bsc (bCB F_law_exact (bCs (bLst (bCs (bV 4) (bCs (bV 4) bN))) (bCs (bV 5) bN)))))) (sRet (sW (eC (.bool false)))) sNx) [.pu p ps4, .sh (.list V), .sh (.list N), .sh (.str R), .ow B, .nest [.ow B, .ow B], .emp, .emp] = some (.nx, [.pu p ps4, .sh (.list V), .sh (.list N), .sh (.str R), .ow B, .nest [.ow B, .ow B], .emp, .emp]) := by
    simp [x1, wIs]
  have st5 : (sDrop (eAppK 5 0 (.str "more"))) [.pu p ps4, .sh (.list V), .sh (.list N), .sh (.str R), .ow B, .nest [.ow B, .ow B], .emp, .emp] = some (.nx, [.pu p ps4, .sh (.list V), .sh (.list N), .sh (.str R), .ow B, .nest [.ow (B ++ [.str "more"]), .ow B], .emp, .emp]) := by
    simp [nUp, smallLen_of lb]
  have st6 : (sRet (sW (bsc (bAn (bCB F_law_exact (bCs (bV 4) (bCs (bCB F_counts_of_pack (bCs (bV 2) (bCs (bV 1) bN))) bN))) (bB wEq (bCB (c1 wRepr) (bCs (bLst (bCs (bV 2) (bCs (bV 1) bN))) bN)) (bV 3)))))) [.pu p ps4, .sh (.list V), .sh (.list N), .sh (.str R), .ow B, .nest [.ow (B ++ [.str "more"]), .ow B], .emp, .emp] = some (.rt (.sh (.bool true)), [.pu p ps4, .sh (.list V), .sh (.list N), .sh (.str R), .ow B, .nest [.ow (B ++ [.str "more"]), .ow B], .emp, .emp]) := by
    simp [x2, cp, hR]
  have all : b_law_pack_right [.pu p ps, .emp, .emp, .emp, .emp, .emp, .emp, .emp] = some (.rt (.sh (.bool true)), [.pu p ps4, .sh (.list V), .sh (.list N), .sh (.str R), .ow B, .nest [.ow (B ++ [.str "more"]), .ow B], .emp, .emp]) := by
    unfold b_law_pack_right
    rw [sSeq_e, st0, sq_nx, sSeq_e, st1, sq_nx, sSeq_e, st2, sq_nx, sSeq_e, st3, sq_nx, sSeq_e, st4, sq_nx, sSeq_e, st5, sq_nx, st6]
  show runP 1 8 b_law_pack_right p ps [] = _
  unfold runP
  rw [if_pos (show ([] : List D).length + 1 = 1 from rfl)]
  show (match b_law_pack_right [.pu p ps, .emp, .emp, .emp, .emp, .emp, .emp, .emp] with
    | some (.rt w, e) => bo (wP (Z.get e 0)) fun q => if q.1 = p then some (w, q.2) else none
    | some (.nx, e) => bo (wP (Z.get e 0)) fun q => if q.1 = p then some (.sh .none, q.2) else none
    | _ => none) = _
  rw [all]
  simp
end Law

set_option Elab.async false
set_option linter.all false
set_option maxRecDepth 100000
set_option maxHeartbeats 4000000
namespace Law
open PySem PySem.Spec PyProof.Rows L2 Z
theorem top_i (ns : List Int) : (sForP (eF F_law_purses (adC (eD 0) (adC (eC (.int 3)) adN))) 1 (sWq [1, 2] (sFor (iR1 (aC (vO (eC (.int 2))) aN)) (tgN 2) (sWq [2] (sIf (tOr' (tNo (tD (fz (eP 1 F_law_case_right adN)))) (tNo (tD (fz (eP 1 F_law_pack_right adN))))) (sRet (sW (eC (.bool false)))) sNx)))) [1, 2]) [.sh (scr ns), .emp, .emp, .emp, .emp, .emp] = some (.nx, [.sh (scr ns), .emp, .emp, .emp, .emp, .emp]) := by
  obtain ⟨ws, h1, h2⟩ := purses_i (M := 1000) (by omega) ns
  have q1 : (eF F_law_purses (adC (eD 0) (adC (eC (.int 3)) adN))) [.sh (scr ns), .emp, .emp, .emp, .emp, .emp] = some (.nest ws, [.sh (scr ns), .emp, .emp, .emp, .emp, .emp]) := by
    rw [eF_e, adC_e, eD_e]
    simp [h1]
  unfold sForP
  rw [q1, bd_some]
  have hall : ∀ w ∈ ws, nxOn (sWq [1, 2] (sFor (iR1 (aC (vO (eC (.int 2))) aN)) (tgN 2) (sWq [2] (sIf (tOr' (tNo (tD (fz (eP 1 F_law_case_right adN)))) (tNo (tD (fz (eP 1 F_law_pack_right adN))))) (sRet (sW (eC (.bool false)))) sNx)))) [1, 2] 1 [.sh (scr ns), .emp, .emp, .emp, .emp, .emp] w := fun w hw => by
    obtain ⟨ds, rfl, hp⟩ := h2 w hw
    refine ⟨ds, rfl, fun p => ?_⟩
    have r2 : rngI [.int 2] = some (rng 0 2) := rngI_1 2 (by omega)
    obtain ⟨e', g1, qs, g2, rfl⟩ := fLoop_inv (tg := tgN 2) (fb := (sWq [2] (sIf (tOr' (tNo (tD (fz (eP 1 F_law_case_right adN)))) (tNo (tD (fz (eP 1 F_law_pack_right adN))))) (sRet (sW (eC (.bool false)))) sNx))) (fun k e => ∃ qs, POk (1000 - 200 * k) qs ∧ e = [.sh (scr ns), .pu p qs, .emp, .emp, .emp, .emp]) (ds := rng 0 2) (k := 0) (env := [.sh (scr ns), .pu p ds, .emp, .emp, .emp, .emp]) ⟨ds, hp, rfl⟩ fun i d e hd hi => by
      obtain ⟨qs, i1, rfl⟩ := hi
      obtain ⟨hi, rfl⟩ := rng_get hd
      obtain ⟨qs1, c1, k1⟩ := case_right_i (M := 1000 - 200 * (0 + i) - 60) (i1.less (by omega))
      obtain ⟨qs2, c2, k2⟩ := pack_right_i (M := 1000 - 200 * (0 + i + 1)) (k1.less (by omega))
      refine ⟨[.sh (scr ns), .pu p qs, .sh (.int (0 + (i : Int))), .emp, .emp, .emp], [.sh (scr ns), .pu p qs2, .emp, .emp, .emp, .emp], rfl, ?_, qs2, k2, rfl⟩
      simp [c1, c2]
    refine ⟨[.sh (scr ns), .emp, .emp, .emp, .emp, .emp], ?_, by simp⟩
    simp [r2, g1]
  show (open Classical in if ∀ w ∈ ws, nxOn (sWq [1, 2] (sFor (iR1 (aC (vO (eC (.int 2))) aN)) (tgN 2) (sWq [2] (sIf (tOr' (tNo (tD (fz (eP 1 F_law_case_right adN)))) (tNo (tD (fz (eP 1 F_law_pack_right adN))))) (sRet (sW (eC (.bool false)))) sNx)))) [1, 2] 1 [.sh (scr ns), .emp, .emp, .emp, .emp, .emp] w then some (Fl.nx, wp [1, 2] [.sh (scr ns), .emp, .emp, .emp, .emp, .emp]) else none) = _
  rw [if_pos hall]
  simp
theorem kA : Cnt [2, 1, 3, 1, 1, 2] := ⟨by simp, by simp⟩
theorem law_true (ns : List Int) (_ : ns.length ≤ 63) : F_law [Z.scr ns] = some (.sh (.bool true)) := by
  have kB : Cnt [2, 2] := ⟨by simp, by simp⟩
  have kC : Cnt [2, 2, 1, 1] := ⟨by simp, by simp⟩
  have kD : Cnt [] := ⟨by simp, by simp⟩
  have kE : Cnt [100000000000] := ⟨by simp, by simp⟩
  have kF : Cnt [2, 2, 1] := ⟨by simp, by simp⟩
  have kV : Cnt [1, 2, 3] := ⟨by simp, by simp⟩
  have k4 : Cnt [4] := ⟨by simp, by simp⟩
  have w1 : way [2, 1, 3, 1, 1, 2] 0 = [0, 2, 5] := by simp [way]
  have w2 : endsN [2, 1, 3, 1, 1, 2] = [5, 5, 5, 5, 5, 5] := by simp [endsN, end_, way, List.range, List.range.loop]
  have w3 : com [2, 1, 3, 1, 1, 2] 0 1 = [2, 5] := by simp [com, way]
  have v1 : F_way_from [.list [.int 2, .int 1, .int 3, .int 1, .int 1, .int 2], .int 0] = some (.ow [.int 0, .int 2, .int 5]) := by
    have := way_from_i kA (p := 0) (by decide)
    rw [w1] at this; exact this
  have v2 : F_ends_of [.list [.int 2, .int 1, .int 3, .int 1, .int 1, .int 2]] = some (.ow [.int 5, .int 5, .int 5, .int 5, .int 5, .int 5]) := by
    have := ends_of_i kA
    rw [w2] at this; exact this
  have v3 : F_first_common [.list [.int 2, .int 1, .int 3, .int 1, .int 1, .int 2], .int 0, .int 1] = some (.sh (.int 2)) := by
    have := first_common_i kA (p := 0) (q := 1) (by decide) (by decide)
    rw [w3] at this; exact this
  have v4 : F_alike_share [.list [.int 2, .int 1, .int 3, .int 1, .int 1, .int 2], .int 4] = some (.sh (.tuple [.int 1, .int 1])) := by
    have := alike_i kA (by decide) (s := 4) (by decide) (by decide)
    rw [w2] at this; exact this
  have v5 : F_counts_of_pack [.list [.int 0, .int 5, .int 14], .list [.int 1, .int 2, .int 3]] = some (.ow [.int 1, .int 3, .int 3]) := counts_of_pack_i (ns := [0, 5, 14]) (by simp) (by simp) (by simp) kV (by simp)
  have w6 : com [2, 2] 0 1 = [] := by simp [com, way]
  have v6 : F_first_common [.list [.int 2, .int 2], .int 0, .int 1] = some (.sh .none) := by
    have := first_common_i kB (p := 0) (q := 1) (by decide) (by decide)
    rw [w6] at this; exact this
  have w7 : endsN [2, 2, 1, 1] = [3, 3, 3, 3] := by simp [endsN, end_, way, List.range, List.range.loop]
  have v7 : F_alike_share [.list [.int 2, .int 2, .int 1, .int 1], .int 2] = some (.sh (.tuple [.int 1, .int 1])) := by
    have := alike_i kC (by decide) (s := 2) (by decide) (by decide)
    rw [w7] at this; exact this
  have v8 : F_ends_of [.list []] = some (.ow []) := ends_of_i kD
  have v9 : F_counts_of_pack [.list [], .list [.int 4]] = some (.ow []) := counts_of_pack_i (ns := []) (by simp) (by simp) (by simp) k4 (by simp)
  have w10 : way [100000000000] 0 = [0] := by simp [way]
  have v10 : F_way_from [.list [.int 100000000000], .int 0] = some (.ow [.int 0]) := by
    have := way_from_i kE (p := 0) (by decide)
    rw [w10] at this; exact this
  have p11 : wPow (.int 10) (.int 11) = some (.sh (.int 100000000000)) := by rw [wPow_ii _ _ (by decide +kernel)]; rfl
  have w11 : endsN [2, 2] = [0, 1] := by simp [endsN, end_, way, List.range, List.range.loop]
  have v11 : F_alike_share [.list [.int 2, .int 2], .int 2] = some (.sh (.tuple [.int 1, .int 2])) := by
    have := alike_i kB (by decide) (s := 2) (by decide) (by decide)
    rw [w11] at this; exact this
  have w12 : endsN [2, 2, 1] = [2, 1, 2] := by simp [endsN, end_, way, List.range, List.range.loop]
  have v12 : F_alike_share [.list [.int 2, .int 2, .int 1], .int 3] = some (.sh (.tuple [.int 5, .int 9])) := by
    have := alike_i kF (by decide) (s := 3) (by decide) (by decide)
    rw [w12] at this; exact this
  have x1 : F_law_exact [.list [.list [.int 0, .int 2, .int 5], .list [.int 5, .int 5, .int 5, .int 5, .int 5, .int 5], .int 2, .tuple [.int 1, .int 1], .list [.int 1, .int 3, .int 3], .none, .tuple [.int 1, .int 1], .list [], .list [], .list [.int 0]], .list [.list [.int 0, .int 2, .int 5], .list [.int 5, .int 5, .int 5, .int 5, .int 5, .int 5], .int 2, .tuple [.int 1, .int 1], .list [.int 1, .int 3, .int 3], .none, .tuple [.int 1, .int 1], .list [], .list [], .list [.int 0]]] = some (.sh (.bool true)) := exact_ok (by simp [Fl1])
  have x2 : F_law_exact [.list [.tuple [.int 1, .int 2], .tuple [.int 5, .int 9]], .list [.tuple [.int 1, .int 2], .tuple [.int 5, .int 9]]] = some (.sh (.bool true)) := exact_ok (by simp [Fl1])
  have st0 : (sForP (eF F_law_purses (adC (eD 0) (adC (eC (.int 3)) adN))) 1 (sWq [1, 2] (sFor (iR1 (aC (vO (eC (.int 2))) aN)) (tgN 2) (sWq [2] (sIf (tOr' (tNo (tD (fz (eP 1 F_law_case_right adN)))) (tNo (tD (fz (eP 1 F_law_pack_right adN))))) (sRet (sW (eC (.bool false)))) sNx)))) [1, 2]) [.sh (scr ns), .emp, .emp, .emp, .emp, .emp] = some (.nx, [.sh (scr ns), .emp, .emp, .emp, .emp, .emp]) := by
    exact top_i ns
  have st1 : (sSet 3 (eLst (adC (eC (.int 2)) (adC (eC (.int 1)) (adC (eC (.int 3)) (adC (eC (.int 1)) (adC (eC (.int 1)) (adC (eC (.int 2)) adN)))))))) [.sh (scr ns), .emp, .emp, .emp, .emp, .emp] = some (.nx, [.sh (scr ns), .emp, .emp, .ow [.int 2, .int 1, .int 3, .int 1, .int 1, .int 2], .emp, .emp]) := by
    simp
  have st2 : (sSet 4 (eLst (adC (fz (eF F_way_from (adC (eD 3) (adC (eC (.int 0)) adN)))) (adC (fz (eF F_ends_of (adC (eD 3) adN))) (adC (fz (eF F_first_common (adC (eD 3) (adC (eC (.int 0)) (adC (eC (.int 1)) adN))))) adN))))) [.sh (scr ns), .emp, .emp, .ow [.int 2, .int 1, .int 3, .int 1, .int 1, .int 2], .emp, .emp] = some (.nx, [.sh (scr ns), .emp, .emp, .sh (.list [.int 2, .int 1, .int 3, .int 1, .int 1, .int 2]), .ow [.list [.int 0, .int 2, .int 5], .list [.int 5, .int 5, .int 5, .int 5, .int 5, .int 5], .int 2], .emp]) := by
    simp [v1, v2, v3]
  have st3 : (sSet 4 (eB wAdd (eV 4) (vO (fz (eLst (adC (fz (eF F_alike_share (adC (eD 3) (adC (eC (.int 4)) adN)))) (adC (fz (eF F_counts_of_pack (adC (fz (eLst (adC (eC (.int 0)) (adC (eC (.int 5)) (adC (eC (.int 14)) adN))))) (adC (fz (eLst (adC (eC (.int 1)) (adC (eC (.int 2)) (adC (eC (.int 3)) adN))))) adN)))) adN))))))) [.sh (scr ns), .emp, .emp, .sh (.list [.int 2, .int 1, .int 3, .int 1, .int 1, .int 2]), .ow [.list [.int 0, .int 2, .int 5], .list [.int 5, .int 5, .int 5, .int 5, .int 5, .int 5], .int 2], .emp] = some (.nx, [.sh (scr ns), .emp, .emp, .sh (.list [.int 2, .int 1, .int 3, .int 1, .int 1, .int 2]), .ow [.list [.int 0, .int 2, .int 5], .list [.int 5, .int 5, .int 5, .int 5, .int 5, .int 5], .int 2, .tuple [.int 1, .int 1], .list [.int 1, .int 3, .int 3]], .emp]) := by
    simp [v4, v5, wAdd_ll]
  have st4 : (sSet 4 (eB wAdd (eV 4) (vO (fz (eLst (adC (fz (eF F_first_common (adC (fz (eLst (adC (eC (.int 2)) (adC (eC (.int 2)) adN)))) (adC (eC (.int 0)) (adC (eC (.int 1)) adN))))) (adC (fz (eF F_alike_share (adC (fz (eLst (adC (eC (.int 2)) (adC (eC (.int 2)) (adC (eC (.int 1)) (adC (eC (.int 1)) adN)))))) (adC (eC (.int 2)) adN)))) (adC (fz (eF F_ends_of (adC (fz (eLst adN)) adN))) adN)))))))) [.sh (scr ns), .emp, .emp, .sh (.list [.int 2, .int 1, .int 3, .int 1, .int 1, .int 2]), .ow [.list [.int 0, .int 2, .int 5], .list [.int 5, .int 5, .int 5, .int 5, .int 5, .int 5], .int 2, .tuple [.int 1, .int 1], .list [.int 1, .int 3, .int 3]], .emp] = some (.nx, [.sh (scr ns), .emp, .emp, .sh (.list [.int 2, .int 1, .int 3, .int 1, .int 1, .int 2]), .ow [.list [.int 0, .int 2, .int 5], .list [.int 5, .int 5, .int 5, .int 5, .int 5, .int 5], .int 2, .tuple [.int 1, .int 1], .list [.int 1, .int 3, .int 3], .none, .tuple [.int 1, .int 1], .list []], .emp]) := by
    simp [v6, v7, v8, wAdd_ll]
  have st5 : (sSet 4 (eB wAdd (eV 4) (vO (fz (eLst (adC (fz (eF F_counts_of_pack (adC (fz (eLst adN)) (adC (fz (eLst (adC (eC (.int 4)) adN))) adN)))) (adC (fz (eF F_way_from (adC (fz (eLst (adC (fz (eB wPow (vO (eC (.int 10))) (vO (eC (.int 11))))) adN))) (adC (eC (.int 0)) adN)))) adN))))))) [.sh (scr ns), .emp, .emp, .sh (.list [.int 2, .int 1, .int 3, .int 1, .int 1, .int 2]), .ow [.list [.int 0, .int 2, .int 5], .list [.int 5, .int 5, .int 5, .int 5, .int 5, .int 5], .int 2, .tuple [.int 1, .int 1], .list [.int 1, .int 3, .int 3], .none, .tuple [.int 1, .int 1], .list []], .emp] = some (.nx, [.sh (scr ns), .emp, .emp, .sh (.list [.int 2, .int 1, .int 3, .int 1, .int 1, .int 2]), .ow [.list [.int 0, .int 2, .int 5], .list [.int 5, .int 5, .int 5, .int 5, .int 5, .int 5], .int 2, .tuple [.int 1, .int 1], .list [.int 1, .int 3, .int 3], .none, .tuple [.int 1, .int 1], .list [], .list [], .list [.int 0]], .emp]) := by
    simp [v9, v10, p11, wAdd_ll]
  have st6 : (sSet 5 (eLst (adC (fz (eLst (adC (eC (.int 0)) (adC (eC (.int 2)) (adC (eC (.int 5)) adN))))) (adC (fz (eLst (adC (eC (.int 5)) (adC (eC (.int 5)) (adC (eC (.int 5)) (adC (eC (.int 5)) (adC (eC (.int 5)) (adC (eC (.int 5)) adN)))))))) (adC (eC (.int 2)) (adC (fz (eTup (adC (eC (.int 1)) (adC (eC (.int 1)) adN)))) (adC (fz (eLst (adC (eC (.int 1)) (adC (eC (.int 3)) (adC (eC (.int 3)) adN))))) (adC (eC .none) (adC (fz (eTup (adC (eC (.int 1)) (adC (eC (.int 1)) adN)))) (adC (fz (eLst adN)) (adC (fz (eLst adN)) (adC (fz (eLst (adC (eC (.int 0)) adN))) adN)))))))))))) [.sh (scr ns), .emp, .emp, .sh (.list [.int 2, .int 1, .int 3, .int 1, .int 1, .int 2]), .ow [.list [.int 0, .int 2, .int 5], .list [.int 5, .int 5, .int 5, .int 5, .int 5, .int 5], .int 2, .tuple [.int 1, .int 1], .list [.int 1, .int 3, .int 3], .none, .tuple [.int 1, .int 1], .list [], .list [], .list [.int 0]], .emp] = some (.nx, [.sh (scr ns), .emp, .emp, .sh (.list [.int 2, .int 1, .int 3, .int 1, .int 1, .int 2]), .ow [.list [.int 0, .int 2, .int 5], .list [.int 5, .int 5, .int 5, .int 5, .int 5, .int 5], .int 2, .tuple [.int 1, .int 1], .list [.int 1, .int 3, .int 3], .none, .tuple [.int 1, .int 1], .list [], .list [], .list [.int 0]], .ow [.list [.int 0, .int 2, .int 5], .list [.int 5, .int 5, .int 5, .int 5, .int 5, .int 5], .int 2, .tuple [.int 1, .int 1], .list [.int 1, .int 3, .int 3], .none, .tuple [.int 1, .int 1], .list [], .list [], .list [.int 0]]]) := by
    simp
  have st7 : (sRet (sW (bsc (bAn (bCB F_law_exact (bCs (bV 5) (bCs (bV 4) bN))) (bCB F_law_exact (bCs (bLst (bCs (bTup (bCs (bC (.int 1)) (bCs (bC (.int 2)) bN))) (bCs (bTup (bCs (bC (.int 5)) (bCs (bC (.int 9)) bN))) bN))) (bCs (bLst (bCs (bCB F_alike_share (bCs (bLst (bCs (bC (.int 2)) (bCs (bC (.int 2)) bN))) (bCs (bC (.int 2)) bN))) (bCs (bCB F_alike_share (bCs (bLst (bCs (bC (.int 2)) (bCs (bC (.int 2)) (bCs (bC (.int 1)) bN)))) (bCs (bC (.int 3)) bN))) bN))) bN))))))) [.sh (scr ns), .emp, .emp, .sh (.list [.int 2, .int 1, .int 3, .int 1, .int 1, .int 2]), .ow [.list [.int 0, .int 2, .int 5], .list [.int 5, .int 5, .int 5, .int 5, .int 5, .int 5], .int 2, .tuple [.int 1, .int 1], .list [.int 1, .int 3, .int 3], .none, .tuple [.int 1, .int 1], .list [], .list [], .list [.int 0]], .ow [.list [.int 0, .int 2, .int 5], .list [.int 5, .int 5, .int 5, .int 5, .int 5, .int 5], .int 2, .tuple [.int 1, .int 1], .list [.int 1, .int 3, .int 3], .none, .tuple [.int 1, .int 1], .list [], .list [], .list [.int 0]]] = some (.rt (.sh (.bool true)), [.sh (scr ns), .emp, .emp, .sh (.list [.int 2, .int 1, .int 3, .int 1, .int 1, .int 2]), .ow [.list [.int 0, .int 2, .int 5], .list [.int 5, .int 5, .int 5, .int 5, .int 5, .int 5], .int 2, .tuple [.int 1, .int 1], .list [.int 1, .int 3, .int 3], .none, .tuple [.int 1, .int 1], .list [], .list [], .list [.int 0]], .ow [.list [.int 0, .int 2, .int 5], .list [.int 5, .int 5, .int 5, .int 5, .int 5, .int 5], .int 2, .tuple [.int 1, .int 1], .list [.int 1, .int 3, .int 3], .none, .tuple [.int 1, .int 1], .list [], .list [], .list [.int 0]]]) := by
    simp [x1, x2, v11, v12]
  refine runF_rt (e := [.sh (scr ns), .emp, .emp, .sh (.list [.int 2, .int 1, .int 3, .int 1, .int 1, .int 2]), .ow [.list [.int 0, .int 2, .int 5], .list [.int 5, .int 5, .int 5, .int 5, .int 5, .int 5], .int 2, .tuple [.int 1, .int 1], .list [.int 1, .int 3, .int 3], .none, .tuple [.int 1, .int 1], .list [], .list [], .list [.int 0]], .ow [.list [.int 0, .int 2, .int 5], .list [.int 5, .int 5, .int 5, .int 5, .int 5, .int 5], .int 2, .tuple [.int 1, .int 1], .list [.int 1, .int 3, .int 3], .none, .tuple [.int 1, .int 1], .list [], .list [], .list [.int 0]]]) rfl ?_
  show b_law [.sh (scr ns), .emp, .emp, .emp, .emp, .emp] = _
  unfold b_law
  rw [sSeq_e, st0, sq_nx, sSeq_e, st1, sq_nx, sSeq_e, st2, sq_nx, sSeq_e, st3, sq_nx, sSeq_e, st4, sq_nx, sSeq_e, st5, sq_nx, sSeq_e, st6, sq_nx, st7]
end Law

namespace Law
open PySem PySem.Spec PyProof.Rows L2 Z
set_option linter.all false
set_option maxHeartbeats 4000000
set_option maxRecDepth 100000
theorem all_mk {P : Program} {w : World} {K : PySem.W.Frag} {h : Heap} {mg : Str → Option Value} {fa : Addr} (X : K.In h) (G : h.Ns mainGlobals mg) (hfa : mg "law" = some (.ref fa))
    {A_is_whole : Addr} {oc_is_whole : Value} {od_is_whole : Option Addr} {kV_is_whole dc_is_whole pm_is_whole : Value} {an_is_whole : Option Addr} {cd_is_whole ct_is_whole : Value} {sl_is_whole : Array (Option Value)}
    {A_is_count : Addr} {oc_is_count : Value} {od_is_count : Option Addr} {kV_is_count dc_is_count pm_is_count : Value} {an_is_count : Option Addr} {cd_is_count ct_is_count : Value} {sl_is_count : Array (Option Value)} {D_is_count : Addr} {pc_is_count : Value} {pd_is_count : Option Addr} {pt_is_count : Tok} {pn_is_count : Nat} {ps_is_count : Array (Option Value)}
    {A_is_pack : Addr} {oc_is_pack : Value} {od_is_pack : Option Addr} {kV_is_pack dc_is_pack pm_is_pack : Value} {an_is_pack : Option Addr} {cd_is_pack ct_is_pack : Value} {sl_is_pack : Array (Option Value)}
    {A_check_pack : Addr} {oc_check_pack : Value} {od_check_pack : Option Addr} {kV_check_pack dc_check_pack pm_check_pack : Value} {an_check_pack : Option Addr} {cd_check_pack ct_check_pack : Value} {sl_check_pack : Array (Option Value)}
    {A_fraction : Addr} {oc_fraction : Value} {od_fraction : Option Addr} {kV_fraction dc_fraction pm_fraction : Value} {an_fraction : Option Addr} {cd_fraction ct_fraction : Value} {sl_fraction : Array (Option Value)}
    {A_are_counts : Addr} {oc_are_counts : Value} {od_are_counts : Option Addr} {kV_are_counts dc_are_counts pm_are_counts : Value} {an_are_counts : Option Addr} {cd_are_counts ct_are_counts : Value} {sl_are_counts : Array (Option Value)}
    {A_check_counts : Addr} {oc_check_counts : Value} {od_check_counts : Option Addr} {kV_check_counts dc_check_counts pm_check_counts : Value} {an_check_counts : Option Addr} {cd_check_counts ct_check_counts : Value} {sl_check_counts : Array (Option Value)}
    {A_check_start : Addr} {oc_check_start : Value} {od_check_start : Option Addr} {kV_check_start dc_check_start pm_check_start : Value} {an_check_start : Option Addr} {cd_check_start ct_check_start : Value} {sl_check_start : Array (Option Value)}
    {A_way_there : Addr} {oc_way_there : Value} {od_way_there : Option Addr} {kV_way_there dc_way_there pm_way_there : Value} {an_way_there : Option Addr} {cd_way_there ct_way_there : Value} {sl_way_there : Array (Option Value)}
    {A_way_from : Addr} {oc_way_from : Value} {od_way_from : Option Addr} {kV_way_from dc_way_from pm_way_from : Value} {an_way_from : Option Addr} {cd_way_from ct_way_from : Value} {sl_way_from : Array (Option Value)}
    {A_ends_there : Addr} {oc_ends_there : Value} {od_ends_there : Option Addr} {kV_ends_there dc_ends_there pm_ends_there : Value} {an_ends_there : Option Addr} {cd_ends_there ct_ends_there : Value} {sl_ends_there : Array (Option Value)}
    {A_ends_of : Addr} {oc_ends_of : Value} {od_ends_of : Option Addr} {kV_ends_of dc_ends_of pm_ends_of : Value} {an_ends_of : Option Addr} {cd_ends_of ct_ends_of : Value} {sl_ends_of : Array (Option Value)}
    {A_first_common : Addr} {oc_first_common : Value} {od_first_common : Option Addr} {kV_first_common dc_first_common pm_first_common : Value} {an_first_common : Option Addr} {cd_first_common ct_first_common : Value} {sl_first_common : Array (Option Value)}
    {A_check_starts : Addr} {oc_check_starts : Value} {od_check_starts : Option Addr} {kV_check_starts dc_check_starts pm_check_starts : Value} {an_check_starts : Option Addr} {cd_check_starts ct_check_starts : Value} {sl_check_starts : Array (Option Value)}
    {A_alike_share : Addr} {oc_alike_share : Value} {od_alike_share : Option Addr} {kV_alike_share dc_alike_share pm_alike_share : Value} {an_alike_share : Option Addr} {cd_alike_share ct_alike_share : Value} {sl_alike_share : Array (Option Value)}
    {A_counts_of_pack : Addr} {oc_counts_of_pack : Value} {od_counts_of_pack : Option Addr} {kV_counts_of_pack dc_counts_of_pack pm_counts_of_pack : Value} {an_counts_of_pack : Option Addr} {cd_counts_of_pack ct_counts_of_pack : Value} {sl_counts_of_pack : Array (Option Value)}
    {A_law_purse : Addr} {oc_law_purse : Value} {od_law_purse : Option Addr} {kV_law_purse dc_law_purse pm_law_purse : Value} {an_law_purse : Option Addr} {cd_law_purse ct_law_purse : Value} {sl_law_purse : Array (Option Value)}
    {A_law_mixed : Addr} {oc_law_mixed : Value} {od_law_mixed : Option Addr} {kV_law_mixed dc_law_mixed pm_law_mixed : Value} {an_law_mixed : Option Addr} {cd_law_mixed ct_law_mixed : Value} {sl_law_mixed : Array (Option Value)}
    {A_law_draw : Addr} {oc_law_draw : Value} {od_law_draw : Option Addr} {kV_law_draw dc_law_draw pm_law_draw : Value} {an_law_draw : Option Addr} {cd_law_draw ct_law_draw : Value} {sl_law_draw : Array (Option Value)}
    {A_law_purses : Addr} {oc_law_purses : Value} {od_law_purses : Option Addr} {kV_law_purses dc_law_purses pm_law_purses : Value} {an_law_purses : Option Addr} {cd_law_purses ct_law_purses : Value} {sl_law_purses : Array (Option Value)}
    {A_law_one_of : Addr} {oc_law_one_of : Value} {od_law_one_of : Option Addr} {kV_law_one_of dc_law_one_of pm_law_one_of : Value} {an_law_one_of : Option Addr} {cd_law_one_of ct_law_one_of : Value} {sl_law_one_of : Array (Option Value)}
    {A_law_shuffled : Addr} {oc_law_shuffled : Value} {od_law_shuffled : Option Addr} {kV_law_shuffled dc_law_shuffled pm_law_shuffled : Value} {an_law_shuffled : Option Addr} {cd_law_shuffled ct_law_shuffled : Value} {sl_law_shuffled : Array (Option Value)}
    {A_law_exact : Addr} {oc_law_exact : Value} {od_law_exact : Option Addr} {kV_law_exact dc_law_exact pm_law_exact : Value} {an_law_exact : Option Addr} {cd_law_exact ct_law_exact : Value} {sl_law_exact : Array (Option Value)}
    {A_law_way : Addr} {oc_law_way : Value} {od_law_way : Option Addr} {kV_law_way dc_law_way pm_law_way : Value} {an_law_way : Option Addr} {cd_law_way ct_law_way : Value} {sl_law_way : Array (Option Value)}
    {A_law_counts : Addr} {oc_law_counts : Value} {od_law_counts : Option Addr} {kV_law_counts dc_law_counts pm_law_counts : Value} {an_law_counts : Option Addr} {cd_law_counts ct_law_counts : Value} {sl_law_counts : Array (Option Value)}
    {A_law_part : Addr} {oc_law_part : Value} {od_law_part : Option Addr} {kV_law_part dc_law_part pm_law_part : Value} {an_law_part : Option Addr} {cd_law_part ct_law_part : Value} {sl_law_part : Array (Option Value)}
    {A_law_case_right : Addr} {oc_law_case_right : Value} {od_law_case_right : Option Addr} {kV_law_case_right dc_law_case_right pm_law_case_right : Value} {an_law_case_right : Option Addr} {cd_law_case_right ct_law_case_right : Value} {sl_law_case_right : Array (Option Value)}
    {A_law_pack_right : Addr} {oc_law_pack_right : Value} {od_law_pack_right : Option Addr} {kV_law_pack_right dc_law_pack_right pm_law_pack_right : Value} {an_law_pack_right : Option Addr} {cd_law_pack_right ct_law_pack_right : Value} {sl_law_pack_right : Array (Option Value)}
    {A_law : Addr} {oc_law : Value} {od_law : Option Addr} {kV_law dc_law pm_law : Value} {an_law : Option Addr} {cd_law ct_law : Value} {sl_law : Array (Option Value)}
    (a_is_whole : PySem.W.nsIn K mainGlobals "is_whole" = some (some (.ref A_is_whole)))
    (l_is_whole : K.lookup A_is_whole = some ⟨oc_is_whole, od_is_whole, .func (PySem.W.fnOf "is_whole" "is_whole" (defArgs s_is_whole) (defBody s_is_whole) (defScope s_is_whole) .none kV_is_whole dc_is_whole pm_is_whole an_is_whole cd_is_whole ct_is_whole), sl_is_whole⟩)
    (c_is_whole : PySem.W.codeIn K cd_is_whole "is_whole" = true)
    (k_is_whole : PySem.W.keepIn K (.ref A_is_whole) = true)
    (a_is_count : PySem.W.nsIn K mainGlobals "is_count" = some (some (.ref A_is_count)))
    (l_is_count : K.lookup A_is_count = some ⟨oc_is_count, od_is_count, .func (PySem.W.fnOf "is_count" "is_count" (defArgs s_is_count) (defBody s_is_count) (defScope s_is_count) (.ref D_is_count) kV_is_count dc_is_count pm_is_count an_is_count cd_is_count ct_is_count), sl_is_count⟩)
    (e_is_count : K.lookup D_is_count = some ⟨pc_is_count, pd_is_count, .seq #[.int 0 pt_is_count] pn_is_count, ps_is_count⟩)
    (c_is_count : PySem.W.codeIn K cd_is_count "is_count" = true)
    (k_is_count : PySem.W.keepIn K (.ref A_is_count) = true)
    (a_is_pack : PySem.W.nsIn K mainGlobals "is_pack" = some (some (.ref A_is_pack)))
    (l_is_pack : K.lookup A_is_pack = some ⟨oc_is_pack, od_is_pack, .func (PySem.W.fnOf "is_pack" "is_pack" (defArgs s_is_pack) (defBody s_is_pack) (defScope s_is_pack) .none kV_is_pack dc_is_pack pm_is_pack an_is_pack cd_is_pack ct_is_pack), sl_is_pack⟩)
    (c_is_pack : PySem.W.codeIn K cd_is_pack "is_pack" = true)
    (k_is_pack : PySem.W.keepIn K (.ref A_is_pack) = true)
    (a_check_pack : PySem.W.nsIn K mainGlobals "check_pack" = some (some (.ref A_check_pack)))
    (l_check_pack : K.lookup A_check_pack = some ⟨oc_check_pack, od_check_pack, .func (PySem.W.fnOf "check_pack" "check_pack" (defArgs s_check_pack) (defBody s_check_pack) (defScope s_check_pack) .none kV_check_pack dc_check_pack pm_check_pack an_check_pack cd_check_pack ct_check_pack), sl_check_pack⟩)
    (c_check_pack : PySem.W.codeIn K cd_check_pack "check_pack" = true)
    (k_check_pack : PySem.W.keepIn K (.ref A_check_pack) = true)
    (a_fraction : PySem.W.nsIn K mainGlobals "fraction" = some (some (.ref A_fraction)))
    (l_fraction : K.lookup A_fraction = some ⟨oc_fraction, od_fraction, .func (PySem.W.fnOf "fraction" "fraction" (defArgs s_fraction) (defBody s_fraction) (defScope s_fraction) .none kV_fraction dc_fraction pm_fraction an_fraction cd_fraction ct_fraction), sl_fraction⟩)
    (c_fraction : PySem.W.codeIn K cd_fraction "fraction" = true)
    (k_fraction : PySem.W.keepIn K (.ref A_fraction) = true)
    (a_are_counts : PySem.W.nsIn K mainGlobals "are_counts" = some (some (.ref A_are_counts)))
    (l_are_counts : K.lookup A_are_counts = some ⟨oc_are_counts, od_are_counts, .func (PySem.W.fnOf "are_counts" "are_counts" (defArgs s_are_counts) (defBody s_are_counts) (defScope s_are_counts) .none kV_are_counts dc_are_counts pm_are_counts an_are_counts cd_are_counts ct_are_counts), sl_are_counts⟩)
    (c_are_counts : PySem.W.codeIn K cd_are_counts "are_counts" = true)
    (k_are_counts : PySem.W.keepIn K (.ref A_are_counts) = true)
    (a_check_counts : PySem.W.nsIn K mainGlobals "check_counts" = some (some (.ref A_check_counts)))
    (l_check_counts : K.lookup A_check_counts = some ⟨oc_check_counts, od_check_counts, .func (PySem.W.fnOf "check_counts" "check_counts" (defArgs s_check_counts) (defBody s_check_counts) (defScope s_check_counts) .none kV_check_counts dc_check_counts pm_check_counts an_check_counts cd_check_counts ct_check_counts), sl_check_counts⟩)
    (c_check_counts : PySem.W.codeIn K cd_check_counts "check_counts" = true)
    (k_check_counts : PySem.W.keepIn K (.ref A_check_counts) = true)
    (a_check_start : PySem.W.nsIn K mainGlobals "check_start" = some (some (.ref A_check_start)))
    (l_check_start : K.lookup A_check_start = some ⟨oc_check_start, od_check_start, .func (PySem.W.fnOf "check_start" "check_start" (defArgs s_check_start) (defBody s_check_start) (defScope s_check_start) .none kV_check_start dc_check_start pm_check_start an_check_start cd_check_start ct_check_start), sl_check_start⟩)
    (c_check_start : PySem.W.codeIn K cd_check_start "check_start" = true)
    (k_check_start : PySem.W.keepIn K (.ref A_check_start) = true)
    (a_way_there : PySem.W.nsIn K mainGlobals "way_there" = some (some (.ref A_way_there)))
    (l_way_there : K.lookup A_way_there = some ⟨oc_way_there, od_way_there, .func (PySem.W.fnOf "way_there" "way_there" (defArgs s_way_there) (defBody s_way_there) (defScope s_way_there) .none kV_way_there dc_way_there pm_way_there an_way_there cd_way_there ct_way_there), sl_way_there⟩)
    (c_way_there : PySem.W.codeIn K cd_way_there "way_there" = true)
    (k_way_there : PySem.W.keepIn K (.ref A_way_there) = true)
    (a_way_from : PySem.W.nsIn K mainGlobals "way_from" = some (some (.ref A_way_from)))
    (l_way_from : K.lookup A_way_from = some ⟨oc_way_from, od_way_from, .func (PySem.W.fnOf "way_from" "way_from" (defArgs s_way_from) (defBody s_way_from) (defScope s_way_from) .none kV_way_from dc_way_from pm_way_from an_way_from cd_way_from ct_way_from), sl_way_from⟩)
    (c_way_from : PySem.W.codeIn K cd_way_from "way_from" = true)
    (k_way_from : PySem.W.keepIn K (.ref A_way_from) = true)
    (a_ends_there : PySem.W.nsIn K mainGlobals "ends_there" = some (some (.ref A_ends_there)))
    (l_ends_there : K.lookup A_ends_there = some ⟨oc_ends_there, od_ends_there, .func (PySem.W.fnOf "ends_there" "ends_there" (defArgs s_ends_there) (defBody s_ends_there) (defScope s_ends_there) .none kV_ends_there dc_ends_there pm_ends_there an_ends_there cd_ends_there ct_ends_there), sl_ends_there⟩)
    (c_ends_there : PySem.W.codeIn K cd_ends_there "ends_there" = true)
    (k_ends_there : PySem.W.keepIn K (.ref A_ends_there) = true)
    (a_ends_of : PySem.W.nsIn K mainGlobals "ends_of" = some (some (.ref A_ends_of)))
    (l_ends_of : K.lookup A_ends_of = some ⟨oc_ends_of, od_ends_of, .func (PySem.W.fnOf "ends_of" "ends_of" (defArgs s_ends_of) (defBody s_ends_of) (defScope s_ends_of) .none kV_ends_of dc_ends_of pm_ends_of an_ends_of cd_ends_of ct_ends_of), sl_ends_of⟩)
    (c_ends_of : PySem.W.codeIn K cd_ends_of "ends_of" = true)
    (k_ends_of : PySem.W.keepIn K (.ref A_ends_of) = true)
    (a_first_common : PySem.W.nsIn K mainGlobals "first_common" = some (some (.ref A_first_common)))
    (l_first_common : K.lookup A_first_common = some ⟨oc_first_common, od_first_common, .func (PySem.W.fnOf "first_common" "first_common" (defArgs s_first_common) (defBody s_first_common) (defScope s_first_common) .none kV_first_common dc_first_common pm_first_common an_first_common cd_first_common ct_first_common), sl_first_common⟩)
    (c_first_common : PySem.W.codeIn K cd_first_common "first_common" = true)
    (k_first_common : PySem.W.keepIn K (.ref A_first_common) = true)
    (a_check_starts : PySem.W.nsIn K mainGlobals "check_starts" = some (some (.ref A_check_starts)))
    (l_check_starts : K.lookup A_check_starts = some ⟨oc_check_starts, od_check_starts, .func (PySem.W.fnOf "check_starts" "check_starts" (defArgs s_check_starts) (defBody s_check_starts) (defScope s_check_starts) .none kV_check_starts dc_check_starts pm_check_starts an_check_starts cd_check_starts ct_check_starts), sl_check_starts⟩)
    (c_check_starts : PySem.W.codeIn K cd_check_starts "check_starts" = true)
    (k_check_starts : PySem.W.keepIn K (.ref A_check_starts) = true)
    (a_alike_share : PySem.W.nsIn K mainGlobals "alike_share" = some (some (.ref A_alike_share)))
    (l_alike_share : K.lookup A_alike_share = some ⟨oc_alike_share, od_alike_share, .func (PySem.W.fnOf "alike_share" "alike_share" (defArgs s_alike_share) (defBody s_alike_share) (defScope s_alike_share) .none kV_alike_share dc_alike_share pm_alike_share an_alike_share cd_alike_share ct_alike_share), sl_alike_share⟩)
    (c_alike_share : PySem.W.codeIn K cd_alike_share "alike_share" = true)
    (k_alike_share : PySem.W.keepIn K (.ref A_alike_share) = true)
    (a_counts_of_pack : PySem.W.nsIn K mainGlobals "counts_of_pack" = some (some (.ref A_counts_of_pack)))
    (l_counts_of_pack : K.lookup A_counts_of_pack = some ⟨oc_counts_of_pack, od_counts_of_pack, .func (PySem.W.fnOf "counts_of_pack" "counts_of_pack" (defArgs s_counts_of_pack) (defBody s_counts_of_pack) (defScope s_counts_of_pack) .none kV_counts_of_pack dc_counts_of_pack pm_counts_of_pack an_counts_of_pack cd_counts_of_pack ct_counts_of_pack), sl_counts_of_pack⟩)
    (c_counts_of_pack : PySem.W.codeIn K cd_counts_of_pack "counts_of_pack" = true)
    (k_counts_of_pack : PySem.W.keepIn K (.ref A_counts_of_pack) = true)
    (a_law_purse : PySem.W.nsIn K mainGlobals "_law_purse" = some (some (.ref A_law_purse)))
    (l_law_purse : K.lookup A_law_purse = some ⟨oc_law_purse, od_law_purse, .func (PySem.W.fnOf "_law_purse" "_law_purse" (defArgs s_law_purse) (defBody s_law_purse) (defScope s_law_purse) .none kV_law_purse dc_law_purse pm_law_purse an_law_purse cd_law_purse ct_law_purse), sl_law_purse⟩)
    (c_law_purse : PySem.W.codeIn K cd_law_purse "_law_purse" = true)
    (k_law_purse : PySem.W.keepIn K (.ref A_law_purse) = true)
    (a_law_mixed : PySem.W.nsIn K mainGlobals "_law_mixed" = some (some (.ref A_law_mixed)))
    (l_law_mixed : K.lookup A_law_mixed = some ⟨oc_law_mixed, od_law_mixed, .func (PySem.W.fnOf "_law_mixed" "_law_mixed" (defArgs s_law_mixed) (defBody s_law_mixed) (defScope s_law_mixed) .none kV_law_mixed dc_law_mixed pm_law_mixed an_law_mixed cd_law_mixed ct_law_mixed), sl_law_mixed⟩)
    (c_law_mixed : PySem.W.codeIn K cd_law_mixed "_law_mixed" = true)
    (k_law_mixed : PySem.W.keepIn K (.ref A_law_mixed) = true)
    (a_law_draw : PySem.W.nsIn K mainGlobals "_law_draw" = some (some (.ref A_law_draw)))
    (l_law_draw : K.lookup A_law_draw = some ⟨oc_law_draw, od_law_draw, .func (PySem.W.fnOf "_law_draw" "_law_draw" (defArgs s_law_draw) (defBody s_law_draw) (defScope s_law_draw) .none kV_law_draw dc_law_draw pm_law_draw an_law_draw cd_law_draw ct_law_draw), sl_law_draw⟩)
    (c_law_draw : PySem.W.codeIn K cd_law_draw "_law_draw" = true)
    (k_law_draw : PySem.W.keepIn K (.ref A_law_draw) = true)
    (a_law_purses : PySem.W.nsIn K mainGlobals "_law_purses" = some (some (.ref A_law_purses)))
    (l_law_purses : K.lookup A_law_purses = some ⟨oc_law_purses, od_law_purses, .func (PySem.W.fnOf "_law_purses" "_law_purses" (defArgs s_law_purses) (defBody s_law_purses) (defScope s_law_purses) .none kV_law_purses dc_law_purses pm_law_purses an_law_purses cd_law_purses ct_law_purses), sl_law_purses⟩)
    (c_law_purses : PySem.W.codeIn K cd_law_purses "_law_purses" = true)
    (k_law_purses : PySem.W.keepIn K (.ref A_law_purses) = true)
    (a_law_one_of : PySem.W.nsIn K mainGlobals "_law_one_of" = some (some (.ref A_law_one_of)))
    (l_law_one_of : K.lookup A_law_one_of = some ⟨oc_law_one_of, od_law_one_of, .func (PySem.W.fnOf "_law_one_of" "_law_one_of" (defArgs s_law_one_of) (defBody s_law_one_of) (defScope s_law_one_of) .none kV_law_one_of dc_law_one_of pm_law_one_of an_law_one_of cd_law_one_of ct_law_one_of), sl_law_one_of⟩)
    (c_law_one_of : PySem.W.codeIn K cd_law_one_of "_law_one_of" = true)
    (k_law_one_of : PySem.W.keepIn K (.ref A_law_one_of) = true)
    (a_law_shuffled : PySem.W.nsIn K mainGlobals "_law_shuffled" = some (some (.ref A_law_shuffled)))
    (l_law_shuffled : K.lookup A_law_shuffled = some ⟨oc_law_shuffled, od_law_shuffled, .func (PySem.W.fnOf "_law_shuffled" "_law_shuffled" (defArgs s_law_shuffled) (defBody s_law_shuffled) (defScope s_law_shuffled) .none kV_law_shuffled dc_law_shuffled pm_law_shuffled an_law_shuffled cd_law_shuffled ct_law_shuffled), sl_law_shuffled⟩)
    (c_law_shuffled : PySem.W.codeIn K cd_law_shuffled "_law_shuffled" = true)
    (k_law_shuffled : PySem.W.keepIn K (.ref A_law_shuffled) = true)
    (a_law_exact : PySem.W.nsIn K mainGlobals "_law_exact" = some (some (.ref A_law_exact)))
    (l_law_exact : K.lookup A_law_exact = some ⟨oc_law_exact, od_law_exact, .func (PySem.W.fnOf "_law_exact" "_law_exact" (defArgs s_law_exact) (defBody s_law_exact) (defScope s_law_exact) .none kV_law_exact dc_law_exact pm_law_exact an_law_exact cd_law_exact ct_law_exact), sl_law_exact⟩)
    (c_law_exact : PySem.W.codeIn K cd_law_exact "_law_exact" = true)
    (k_law_exact : PySem.W.keepIn K (.ref A_law_exact) = true)
    (a_law_way : PySem.W.nsIn K mainGlobals "_law_way" = some (some (.ref A_law_way)))
    (l_law_way : K.lookup A_law_way = some ⟨oc_law_way, od_law_way, .func (PySem.W.fnOf "_law_way" "_law_way" (defArgs s_law_way) (defBody s_law_way) (defScope s_law_way) .none kV_law_way dc_law_way pm_law_way an_law_way cd_law_way ct_law_way), sl_law_way⟩)
    (c_law_way : PySem.W.codeIn K cd_law_way "_law_way" = true)
    (k_law_way : PySem.W.keepIn K (.ref A_law_way) = true)
    (a_law_counts : PySem.W.nsIn K mainGlobals "_law_counts" = some (some (.ref A_law_counts)))
    (l_law_counts : K.lookup A_law_counts = some ⟨oc_law_counts, od_law_counts, .func (PySem.W.fnOf "_law_counts" "_law_counts" (defArgs s_law_counts) (defBody s_law_counts) (defScope s_law_counts) .none kV_law_counts dc_law_counts pm_law_counts an_law_counts cd_law_counts ct_law_counts), sl_law_counts⟩)
    (c_law_counts : PySem.W.codeIn K cd_law_counts "_law_counts" = true)
    (k_law_counts : PySem.W.keepIn K (.ref A_law_counts) = true)
    (a_law_part : PySem.W.nsIn K mainGlobals "_law_part" = some (some (.ref A_law_part)))
    (l_law_part : K.lookup A_law_part = some ⟨oc_law_part, od_law_part, .func (PySem.W.fnOf "_law_part" "_law_part" (defArgs s_law_part) (defBody s_law_part) (defScope s_law_part) .none kV_law_part dc_law_part pm_law_part an_law_part cd_law_part ct_law_part), sl_law_part⟩)
    (c_law_part : PySem.W.codeIn K cd_law_part "_law_part" = true)
    (k_law_part : PySem.W.keepIn K (.ref A_law_part) = true)
    (a_law_case_right : PySem.W.nsIn K mainGlobals "_law_case_right" = some (some (.ref A_law_case_right)))
    (l_law_case_right : K.lookup A_law_case_right = some ⟨oc_law_case_right, od_law_case_right, .func (PySem.W.fnOf "_law_case_right" "_law_case_right" (defArgs s_law_case_right) (defBody s_law_case_right) (defScope s_law_case_right) .none kV_law_case_right dc_law_case_right pm_law_case_right an_law_case_right cd_law_case_right ct_law_case_right), sl_law_case_right⟩)
    (c_law_case_right : PySem.W.codeIn K cd_law_case_right "_law_case_right" = true)
    (k_law_case_right : PySem.W.keepIn K (.ref A_law_case_right) = true)
    (a_law_pack_right : PySem.W.nsIn K mainGlobals "_law_pack_right" = some (some (.ref A_law_pack_right)))
    (l_law_pack_right : K.lookup A_law_pack_right = some ⟨oc_law_pack_right, od_law_pack_right, .func (PySem.W.fnOf "_law_pack_right" "_law_pack_right" (defArgs s_law_pack_right) (defBody s_law_pack_right) (defScope s_law_pack_right) .none kV_law_pack_right dc_law_pack_right pm_law_pack_right an_law_pack_right cd_law_pack_right ct_law_pack_right), sl_law_pack_right⟩)
    (c_law_pack_right : PySem.W.codeIn K cd_law_pack_right "_law_pack_right" = true)
    (k_law_pack_right : PySem.W.keepIn K (.ref A_law_pack_right) = true)
    (a_law : PySem.W.nsIn K mainGlobals "law" = some (some (.ref A_law)))
    (l_law : K.lookup A_law = some ⟨oc_law, od_law, .func (PySem.W.fnOf "law" "law" (defArgs s_law) (defBody s_law) (defScope s_law) .none kV_law dc_law pm_law an_law cd_law ct_law), sl_law⟩)
    (c_law : PySem.W.codeIn K cd_law "law" = true)
    (k_law : PySem.W.keepIn K (.ref A_law) = true)
    (z_all : PySem.W.nsIn K mainGlobals "all" = some none)
    (z_bool : PySem.W.nsIn K mainGlobals "bool" = some none)
    (z_gcd : PySem.W.nsIn K mainGlobals "gcd" = some (some (.builtin "math.gcd")))
    (z_int : PySem.W.nsIn K mainGlobals "int" = some none)
    (z_isinstance : PySem.W.nsIn K mainGlobals "isinstance" = some none)
    (z_len : PySem.W.nsIn K mainGlobals "len" = some none)
    (z_list : PySem.W.nsIn K mainGlobals "list" = some none)
    (z_max : PySem.W.nsIn K mainGlobals "max" = some none)
    (z_min : PySem.W.nsIn K mainGlobals "min" = some none)
    (z_range : PySem.W.nsIn K mainGlobals "range" = some none)
    (z_repr : PySem.W.nsIn K mainGlobals "repr" = some none)
    (z_set : PySem.W.nsIn K mainGlobals "set" = some none)
    (z_str : PySem.W.nsIn K mainGlobals "str" = some none)
    (z_sum : PySem.W.nsIn K mainGlobals "sum" = some none)
    (z_tuple : PySem.W.nsIn K mainGlobals "tuple" = some none)
    (z_zip : PySem.W.nsIn K mainGlobals "zip" = some none)
    : ∃ fd : FuncData, (∀ (s : Shared) (u : Value), BindsTo s fd ⟨[u], []⟩ [("script", u)]) ∧ ∀ base : Heap, K.In base → base.Ns mainGlobals mg → FnG P w K mg base CX0 10 fa fd ["script"] (spF F_law) := by
  have e := hfa.symm.trans (PySem.W.mg_of X G a_law)
  cases e
  have T : Txt mg := ⟨PySem.W.mg_none_of X G z_all, PySem.W.mg_none_of X G z_bool, PySem.W.mg_of X G z_gcd, PySem.W.mg_none_of X G z_int, PySem.W.mg_none_of X G z_isinstance, PySem.W.mg_none_of X G z_len, PySem.W.mg_none_of X G z_list, PySem.W.mg_none_of X G z_max, PySem.W.mg_none_of X G z_min, PySem.W.mg_none_of X G z_range, PySem.W.mg_none_of X G z_repr, PySem.W.mg_none_of X G z_set, PySem.W.mg_none_of X G z_str, PySem.W.mg_none_of X G z_sum, PySem.W.mg_none_of X G z_tuple, PySem.W.mg_none_of X G z_zip⟩
  have Z_is_whole : FunZ K "is_whole" s_is_whole _ _ := funZ_mk l_is_whole c_is_whole k_is_whole
  have b_is_whole : Binds K (PySem.W.fnOf "is_whole" "is_whole" (defArgs s_is_whole) (defBody s_is_whole) (defScope s_is_whole) .none kV_is_whole dc_is_whole pm_is_whole an_is_whole cd_is_whole ct_is_whole) ["value"] [] := .all fun us hl => match us, hl with | [_], _ => rfl
  have Z_is_count : FunZ K "is_count" s_is_count _ _ := funZ_mk l_is_count c_is_count k_is_count
  have b_is_count : Binds K (PySem.W.fnOf "is_count" "is_count" (defArgs s_is_count) (defBody s_is_count) (defScope s_is_count) (.ref D_is_count) kV_is_count dc_is_count pm_is_count an_is_count cd_is_count ct_is_count) ["value", "least"] [] := fun s us X2 hl => match us, hl with | [_, _], _ => PySem.W.binds_K X2 rfl e_is_count rfl rfl rfl
  have Z_is_pack : FunZ K "is_pack" s_is_pack _ _ := funZ_mk l_is_pack c_is_pack k_is_pack
  have b_is_pack : Binds K (PySem.W.fnOf "is_pack" "is_pack" (defArgs s_is_pack) (defBody s_is_pack) (defScope s_is_pack) .none kV_is_pack dc_is_pack pm_is_pack an_is_pack cd_is_pack ct_is_pack) ["value"] [] := .all fun us hl => match us, hl with | [_], _ => rfl
  have Z_check_pack : FunZ K "check_pack" s_check_pack _ _ := funZ_mk l_check_pack c_check_pack k_check_pack
  have b_check_pack : Binds K (PySem.W.fnOf "check_pack" "check_pack" (defArgs s_check_pack) (defBody s_check_pack) (defScope s_check_pack) .none kV_check_pack dc_check_pack pm_check_pack an_check_pack cd_check_pack ct_check_pack) ["value"] [] := .all fun us hl => match us, hl with | [_], _ => rfl
  have Z_fraction : FunZ K "fraction" s_fraction _ _ := funZ_mk l_fraction c_fraction k_fraction
  have b_fraction : Binds K (PySem.W.fnOf "fraction" "fraction" (defArgs s_fraction) (defBody s_fraction) (defScope s_fraction) .none kV_fraction dc_fraction pm_fraction an_fraction cd_fraction ct_fraction) ["above", "below"] [] := .all fun us hl => match us, hl with | [_, _], _ => rfl
  have Z_are_counts : FunZ K "are_counts" s_are_counts _ _ := funZ_mk l_are_counts c_are_counts k_are_counts
  have b_are_counts : Binds K (PySem.W.fnOf "are_counts" "are_counts" (defArgs s_are_counts) (defBody s_are_counts) (defScope s_are_counts) .none kV_are_counts dc_are_counts pm_are_counts an_are_counts cd_are_counts ct_are_counts) ["value"] [] := .all fun us hl => match us, hl with | [_], _ => rfl
  have Z_check_counts : FunZ K "check_counts" s_check_counts _ _ := funZ_mk l_check_counts c_check_counts k_check_counts
  have b_check_counts : Binds K (PySem.W.fnOf "check_counts" "check_counts" (defArgs s_check_counts) (defBody s_check_counts) (defScope s_check_counts) .none kV_check_counts dc_check_counts pm_check_counts an_check_counts cd_check_counts ct_check_counts) ["counts"] [] := .all fun us hl => match us, hl with | [_], _ => rfl
  have Z_check_start : FunZ K "check_start" s_check_start _ _ := funZ_mk l_check_start c_check_start k_check_start
  have b_check_start : Binds K (PySem.W.fnOf "check_start" "check_start" (defArgs s_check_start) (defBody s_check_start) (defScope s_check_start) .none kV_check_start dc_check_start pm_check_start an_check_start cd_check_start ct_check_start) ["counts", "start"] [] := .all fun us hl => match us, hl with | [_, _], _ => rfl
  have Z_way_there : FunZ K "way_there" s_way_there _ _ := funZ_mk l_way_there c_way_there k_way_there
  have b_way_there : Binds K (PySem.W.fnOf "way_there" "way_there" (defArgs s_way_there) (defBody s_way_there) (defScope s_way_there) .none kV_way_there dc_way_there pm_way_there an_way_there cd_way_there ct_way_there) ["counts", "start"] [] := .all fun us hl => match us, hl with | [_, _], _ => rfl
  have Z_way_from : FunZ K "way_from" s_way_from _ _ := funZ_mk l_way_from c_way_from k_way_from
  have b_way_from : Binds K (PySem.W.fnOf "way_from" "way_from" (defArgs s_way_from) (defBody s_way_from) (defScope s_way_from) .none kV_way_from dc_way_from pm_way_from an_way_from cd_way_from ct_way_from) ["counts", "start"] [] := .all fun us hl => match us, hl with | [_, _], _ => rfl
  have Z_ends_there : FunZ K "ends_there" s_ends_there _ _ := funZ_mk l_ends_there c_ends_there k_ends_there
  have b_ends_there : Binds K (PySem.W.fnOf "ends_there" "ends_there" (defArgs s_ends_there) (defBody s_ends_there) (defScope s_ends_there) .none kV_ends_there dc_ends_there pm_ends_there an_ends_there cd_ends_there ct_ends_there) ["counts"] [] := .all fun us hl => match us, hl with | [_], _ => rfl
  have Z_ends_of : FunZ K "ends_of" s_ends_of _ _ := funZ_mk l_ends_of c_ends_of k_ends_of
  have b_ends_of : Binds K (PySem.W.fnOf "ends_of" "ends_of" (defArgs s_ends_of) (defBody s_ends_of) (defScope s_ends_of) .none kV_ends_of dc_ends_of pm_ends_of an_ends_of cd_ends_of ct_ends_of) ["counts"] [] := .all fun us hl => match us, hl with | [_], _ => rfl
  have Z_first_common : FunZ K "first_common" s_first_common _ _ := funZ_mk l_first_common c_first_common k_first_common
  have b_first_common : Binds K (PySem.W.fnOf "first_common" "first_common" (defArgs s_first_common) (defBody s_first_common) (defScope s_first_common) .none kV_first_common dc_first_common pm_first_common an_first_common cd_first_common ct_first_common) ["counts", "one", "other"] [] := .all fun us hl => match us, hl with | [_, _, _], _ => rfl
  have Z_check_starts : FunZ K "check_starts" s_check_starts _ _ := funZ_mk l_check_starts c_check_starts k_check_starts
  have b_check_starts : Binds K (PySem.W.fnOf "check_starts" "check_starts" (defArgs s_check_starts) (defBody s_check_starts) (defScope s_check_starts) .none kV_check_starts dc_check_starts pm_check_starts an_check_starts cd_check_starts ct_check_starts) ["counts", "starts"] [] := .all fun us hl => match us, hl with | [_, _], _ => rfl
  have Z_alike_share : FunZ K "alike_share" s_alike_share _ _ := funZ_mk l_alike_share c_alike_share k_alike_share
  have b_alike_share : Binds K (PySem.W.fnOf "alike_share" "alike_share" (defArgs s_alike_share) (defBody s_alike_share) (defScope s_alike_share) .none kV_alike_share dc_alike_share pm_alike_share an_alike_share cd_alike_share ct_alike_share) ["counts", "starts"] [] := .all fun us hl => match us, hl with | [_, _], _ => rfl
  have Z_counts_of_pack : FunZ K "counts_of_pack" s_counts_of_pack _ _ := funZ_mk l_counts_of_pack c_counts_of_pack k_counts_of_pack
  have b_counts_of_pack : Binds K (PySem.W.fnOf "counts_of_pack" "counts_of_pack" (defArgs s_counts_of_pack) (defBody s_counts_of_pack) (defScope s_counts_of_pack) .none kV_counts_of_pack dc_counts_of_pack pm_counts_of_pack an_counts_of_pack cd_counts_of_pack ct_counts_of_pack) ["pack", "values"] [] := .all fun us hl => match us, hl with | [_, _], _ => rfl
  have Z_law_purse : FunZ K "_law_purse" s_law_purse _ _ := funZ_mk l_law_purse c_law_purse k_law_purse
  have b_law_purse : Binds K (PySem.W.fnOf "_law_purse" "_law_purse" (defArgs s_law_purse) (defBody s_law_purse) (defScope s_law_purse) .none kV_law_purse dc_law_purse pm_law_purse an_law_purse cd_law_purse ct_law_purse) ["script", "at"] [] := .all fun us hl => match us, hl with | [_, _], _ => rfl
  have Z_law_mixed : FunZ K "_law_mixed" s_law_mixed _ _ := funZ_mk l_law_mixed c_law_mixed k_law_mixed
  have b_law_mixed : Binds K (PySem.W.fnOf "_law_mixed" "_law_mixed" (defArgs s_law_mixed) (defBody s_law_mixed) (defScope s_law_mixed) .none kV_law_mixed dc_law_mixed pm_law_mixed an_law_mixed cd_law_mixed ct_law_mixed) ["seed", "spin", "at"] [] := .all fun us hl => match us, hl with | [_, _, _], _ => rfl
  have Z_law_draw : FunZ K "_law_draw" s_law_draw _ _ := funZ_mk l_law_draw c_law_draw k_law_draw
  have b_law_draw : Binds K (PySem.W.fnOf "_law_draw" "_law_draw" (defArgs s_law_draw) (defBody s_law_draw) (defScope s_law_draw) .none kV_law_draw dc_law_draw pm_law_draw an_law_draw cd_law_draw ct_law_draw) ["purse", "many"] [] := .all fun us hl => match us, hl with | [_, _], _ => rfl
  have Z_law_purses : FunZ K "_law_purses" s_law_purses _ _ := funZ_mk l_law_purses c_law_purses k_law_purses
  have b_law_purses : Binds K (PySem.W.fnOf "_law_purses" "_law_purses" (defArgs s_law_purses) (defBody s_law_purses) (defScope s_law_purses) .none kV_law_purses dc_law_purses pm_law_purses an_law_purses cd_law_purses ct_law_purses) ["script", "few"] [] := .all fun us hl => match us, hl with | [_, _], _ => rfl
  have Z_law_one_of : FunZ K "_law_one_of" s_law_one_of _ _ := funZ_mk l_law_one_of c_law_one_of k_law_one_of
  have b_law_one_of : Binds K (PySem.W.fnOf "_law_one_of" "_law_one_of" (defArgs s_law_one_of) (defBody s_law_one_of) (defScope s_law_one_of) .none kV_law_one_of dc_law_one_of pm_law_one_of an_law_one_of cd_law_one_of ct_law_one_of) ["purse", "some"] [] := .all fun us hl => match us, hl with | [_, _], _ => rfl
  have Z_law_shuffled : FunZ K "_law_shuffled" s_law_shuffled _ _ := funZ_mk l_law_shuffled c_law_shuffled k_law_shuffled
  have b_law_shuffled : Binds K (PySem.W.fnOf "_law_shuffled" "_law_shuffled" (defArgs s_law_shuffled) (defBody s_law_shuffled) (defScope s_law_shuffled) .none kV_law_shuffled dc_law_shuffled pm_law_shuffled an_law_shuffled cd_law_shuffled ct_law_shuffled) ["purse", "some"] [] := .all fun us hl => match us, hl with | [_, _], _ => rfl
  have Z_law_exact : FunZ K "_law_exact" s_law_exact _ _ := funZ_mk l_law_exact c_law_exact k_law_exact
  have b_law_exact : Binds K (PySem.W.fnOf "_law_exact" "_law_exact" (defArgs s_law_exact) (defBody s_law_exact) (defScope s_law_exact) .none kV_law_exact dc_law_exact pm_law_exact an_law_exact cd_law_exact ct_law_exact) ["mine", "theirs"] [] := .all fun us hl => match us, hl with | [_, _], _ => rfl
  have Z_law_way : FunZ K "_law_way" s_law_way _ _ := funZ_mk l_law_way c_law_way k_law_way
  have b_law_way : Binds K (PySem.W.fnOf "_law_way" "_law_way" (defArgs s_law_way) (defBody s_law_way) (defScope s_law_way) .none kV_law_way dc_law_way pm_law_way an_law_way cd_law_way ct_law_way) ["counts", "start"] [] := .all fun us hl => match us, hl with | [_, _], _ => rfl
  have Z_law_counts : FunZ K "_law_counts" s_law_counts _ _ := funZ_mk l_law_counts c_law_counts k_law_counts
  have b_law_counts : Binds K (PySem.W.fnOf "_law_counts" "_law_counts" (defArgs s_law_counts) (defBody s_law_counts) (defScope s_law_counts) .none kV_law_counts dc_law_counts pm_law_counts an_law_counts cd_law_counts ct_law_counts) ["purse", "most"] [] := .all fun us hl => match us, hl with | [_, _], _ => rfl
  have Z_law_part : FunZ K "_law_part" s_law_part _ _ := funZ_mk l_law_part c_law_part k_law_part
  have b_law_part : Binds K (PySem.W.fnOf "_law_part" "_law_part" (defArgs s_law_part) (defBody s_law_part) (defScope s_law_part) .none kV_law_part dc_law_part pm_law_part an_law_part cd_law_part ct_law_part) ["above", "below"] [] := .all fun us hl => match us, hl with | [_, _], _ => rfl
  have Z_law_case_right : FunZ K "_law_case_right" s_law_case_right _ _ := funZ_mk l_law_case_right c_law_case_right k_law_case_right
  have b_law_case_right : Binds K (PySem.W.fnOf "_law_case_right" "_law_case_right" (defArgs s_law_case_right) (defBody s_law_case_right) (defScope s_law_case_right) .none kV_law_case_right dc_law_case_right pm_law_case_right an_law_case_right cd_law_case_right ct_law_case_right) ["purse"] [] := .all fun us hl => match us, hl with | [_], _ => rfl
  have Z_law_pack_right : FunZ K "_law_pack_right" s_law_pack_right _ _ := funZ_mk l_law_pack_right c_law_pack_right k_law_pack_right
  have b_law_pack_right : Binds K (PySem.W.fnOf "_law_pack_right" "_law_pack_right" (defArgs s_law_pack_right) (defBody s_law_pack_right) (defScope s_law_pack_right) .none kV_law_pack_right dc_law_pack_right pm_law_pack_right an_law_pack_right cd_law_pack_right ct_law_pack_right) ["purse"] [] := .all fun us hl => match us, hl with | [_], _ => rfl
  have Z_law : FunZ K "law" s_law _ _ := funZ_mk l_law c_law k_law
  have b_law : Binds K (PySem.W.fnOf "law" "law" (defArgs s_law) (defBody s_law) (defScope s_law) .none kV_law dc_law pm_law an_law cd_law ct_law) ["script"] [] := .all fun us hl => match us, hl with | [_], _ => rfl
  have d_is_count_1 : Binds K (PySem.W.fnOf "is_count" "is_count" (defArgs s_is_count) (defBody s_is_count) (defScope s_is_count) (.ref D_is_count) kV_is_count dc_is_count pm_is_count an_is_count cd_is_count ct_is_count) ["value", "least"] [.int 0 pt_is_count] := fun s us X2 hl => by
    match us, hl with
    | [_], _ => exact PySem.W.binds_K X2 rfl e_is_count rfl rfl rfl
    | [], hl => simp at hl
    | _ :: _ :: r, hl => simp at hl
  have k_alike_share_10 : KwOk K (PySem.W.fnOf "alike_share" "alike_share" (defArgs s_alike_share) (defBody s_alike_share) (defScope s_alike_share) .none kV_alike_share dc_alike_share pm_alike_share an_alike_share cd_alike_share ct_alike_share) ["counts", "starts"] ["starts", "counts"] [1, 0] := fun s ws _ hl => match ws, hl with | [_, _], _ => .of_eq rfl
  have k_first_common_210 : KwOk K (PySem.W.fnOf "first_common" "first_common" (defArgs s_first_common) (defBody s_first_common) (defScope s_first_common) .none kV_first_common dc_first_common pm_first_common an_first_common cd_first_common ct_first_common) ["counts", "one", "other"] ["other", "one", "counts"] [2, 1, 0] := fun s ws _ hl => match ws, hl with | [_, _, _], _ => .of_eq rfl
  have k_ends_of_0 : KwOk K (PySem.W.fnOf "ends_of" "ends_of" (defArgs s_ends_of) (defBody s_ends_of) (defScope s_ends_of) .none kV_ends_of dc_ends_of pm_ends_of an_ends_of cd_ends_of ct_ends_of) ["counts"] ["counts"] [0] := fun s ws _ hl => match ws, hl with | [_], _ => .of_eq rfl
  have k_way_from_10 : KwOk K (PySem.W.fnOf "way_from" "way_from" (defArgs s_way_from) (defBody s_way_from) (defScope s_way_from) .none kV_way_from dc_way_from pm_way_from an_way_from cd_way_from ct_way_from) ["counts", "start"] ["start", "counts"] [1, 0] := fun s ws _ hl => match ws, hl with | [_, _], _ => .of_eq rfl
  have k_counts_of_pack_10 : KwOk K (PySem.W.fnOf "counts_of_pack" "counts_of_pack" (defArgs s_counts_of_pack) (defBody s_counts_of_pack) (defScope s_counts_of_pack) .none kV_counts_of_pack dc_counts_of_pack pm_counts_of_pack an_counts_of_pack cd_counts_of_pack ct_counts_of_pack) ["pack", "values"] ["values", "pack"] [1, 0] := fun s ws _ hl => match ws, hl with | [_, _], _ => .of_eq rfl
  refine ⟨(PySem.W.fnOf "law" "law" (defArgs s_law) (defBody s_law) (defScope s_law) .none kV_law dc_law pm_law an_law cd_law ct_law), fun s v => .of_eq rfl, fun base _ _ => ?_⟩
  have C_is_whole : Cal P w K mg base 1 "is_whole" (PySem.W.fnOf "is_whole" "is_whole" (defArgs s_is_whole) (defBody s_is_whole) (defScope s_is_whole) .none kV_is_whole dc_is_whole pm_is_whole an_is_whole cd_is_whole ct_is_whole) ["value"] (spF F_is_whole) := ⟨⟨_, PySem.W.mg_of X G a_is_whole, k_is_whole, w_is_whole Z_is_whole T ⟩⟩
  have C_is_count : Cal P w K mg base 2 "is_count" (PySem.W.fnOf "is_count" "is_count" (defArgs s_is_count) (defBody s_is_count) (defScope s_is_count) (.ref D_is_count) kV_is_count dc_is_count pm_is_count an_is_count cd_is_count ct_is_count) ["value", "least"] (spF F_is_count) := ⟨⟨_, PySem.W.mg_of X G a_is_count, k_is_count, w_is_count Z_is_count T C_is_whole b_is_whole⟩⟩
  have C_is_pack : Cal P w K mg base 3 "is_pack" (PySem.W.fnOf "is_pack" "is_pack" (defArgs s_is_pack) (defBody s_is_pack) (defScope s_is_pack) .none kV_is_pack dc_is_pack pm_is_pack an_is_pack cd_is_pack ct_is_pack) ["value"] (spF F_is_pack) := ⟨⟨_, PySem.W.mg_of X G a_is_pack, k_is_pack, w_is_pack Z_is_pack T C_is_count b_is_count d_is_count_1⟩⟩
  have C_check_pack : Cal P w K mg base 4 "check_pack" (PySem.W.fnOf "check_pack" "check_pack" (defArgs s_check_pack) (defBody s_check_pack) (defScope s_check_pack) .none kV_check_pack dc_check_pack pm_check_pack an_check_pack cd_check_pack ct_check_pack) ["value"] (spF F_check_pack) := ⟨⟨_, PySem.W.mg_of X G a_check_pack, k_check_pack, w_check_pack Z_check_pack T C_is_pack b_is_pack⟩⟩
  have C_fraction : Cal P w K mg base 1 "fraction" (PySem.W.fnOf "fraction" "fraction" (defArgs s_fraction) (defBody s_fraction) (defScope s_fraction) .none kV_fraction dc_fraction pm_fraction an_fraction cd_fraction ct_fraction) ["above", "below"] (spF F_fraction) := ⟨⟨_, PySem.W.mg_of X G a_fraction, k_fraction, w_fraction Z_fraction T ⟩⟩
  have C_are_counts : Cal P w K mg base 3 "are_counts" (PySem.W.fnOf "are_counts" "are_counts" (defArgs s_are_counts) (defBody s_are_counts) (defScope s_are_counts) .none kV_are_counts dc_are_counts pm_are_counts an_are_counts cd_are_counts ct_are_counts) ["value"] (spF F_are_counts) := ⟨⟨_, PySem.W.mg_of X G a_are_counts, k_are_counts, w_are_counts Z_are_counts T C_is_count b_is_count⟩⟩
  have C_check_counts : Cal P w K mg base 4 "check_counts" (PySem.W.fnOf "check_counts" "check_counts" (defArgs s_check_counts) (defBody s_check_counts) (defScope s_check_counts) .none kV_check_counts dc_check_counts pm_check_counts an_check_counts cd_check_counts ct_check_counts) ["counts"] (spF F_check_counts) := ⟨⟨_, PySem.W.mg_of X G a_check_counts, k_check_counts, w_check_counts Z_check_counts T C_are_counts b_are_counts⟩⟩
  have C_check_start : Cal P w K mg base 5 "check_start" (PySem.W.fnOf "check_start" "check_start" (defArgs s_check_start) (defBody s_check_start) (defScope s_check_start) .none kV_check_start dc_check_start pm_check_start an_check_start cd_check_start ct_check_start) ["counts", "start"] (spF F_check_start) := ⟨⟨_, PySem.W.mg_of X G a_check_start, k_check_start, w_check_start Z_check_start T C_is_count b_is_count C_check_counts b_check_counts d_is_count_1⟩⟩
  have C_way_there : Cal P w K mg base 1 "way_there" (PySem.W.fnOf "way_there" "way_there" (defArgs s_way_there) (defBody s_way_there) (defScope s_way_there) .none kV_way_there dc_way_there pm_way_there an_way_there cd_way_there ct_way_there) ["counts", "start"] (spF F_way_there) := ⟨⟨_, PySem.W.mg_of X G a_way_there, k_way_there, w_way_there Z_way_there T ⟩⟩
  have C_way_from : Cal P w K mg base 6 "way_from" (PySem.W.fnOf "way_from" "way_from" (defArgs s_way_from) (defBody s_way_from) (defScope s_way_from) .none kV_way_from dc_way_from pm_way_from an_way_from cd_way_from ct_way_from) ["counts", "start"] (spF F_way_from) := ⟨⟨_, PySem.W.mg_of X G a_way_from, k_way_from, w_way_from Z_way_from T C_way_there b_way_there C_check_start b_check_start⟩⟩
  have C_ends_there : Cal P w K mg base 1 "ends_there" (PySem.W.fnOf "ends_there" "ends_there" (defArgs s_ends_there) (defBody s_ends_there) (defScope s_ends_there) .none kV_ends_there dc_ends_there pm_ends_there an_ends_there cd_ends_there ct_ends_there) ["counts"] (spF F_ends_there) := ⟨⟨_, PySem.W.mg_of X G a_ends_there, k_ends_there, w_ends_there Z_ends_there T ⟩⟩
  have C_ends_of : Cal P w K mg base 5 "ends_of" (PySem.W.fnOf "ends_of" "ends_of" (defArgs s_ends_of) (defBody s_ends_of) (defScope s_ends_of) .none kV_ends_of dc_ends_of pm_ends_of an_ends_of cd_ends_of ct_ends_of) ["counts"] (spF F_ends_of) := ⟨⟨_, PySem.W.mg_of X G a_ends_of, k_ends_of, w_ends_of Z_ends_of T C_ends_there b_ends_there C_check_counts b_check_counts⟩⟩
  have C_first_common : Cal P w K mg base 6 "first_common" (PySem.W.fnOf "first_common" "first_common" (defArgs s_first_common) (defBody s_first_common) (defScope s_first_common) .none kV_first_common dc_first_common pm_first_common an_first_common cd_first_common ct_first_common) ["counts", "one", "other"] (spF F_first_common) := ⟨⟨_, PySem.W.mg_of X G a_first_common, k_first_common, w_first_common Z_first_common T C_way_there b_way_there C_is_count b_is_count C_check_start b_check_start d_is_count_1⟩⟩
  have C_check_starts : Cal P w K mg base 5 "check_starts" (PySem.W.fnOf "check_starts" "check_starts" (defArgs s_check_starts) (defBody s_check_starts) (defScope s_check_starts) .none kV_check_starts dc_check_starts pm_check_starts an_check_starts cd_check_starts ct_check_starts) ["counts", "starts"] (spF F_check_starts) := ⟨⟨_, PySem.W.mg_of X G a_check_starts, k_check_starts, w_check_starts Z_check_starts T C_is_count b_is_count C_check_counts b_check_counts⟩⟩
  have C_alike_share : Cal P w K mg base 6 "alike_share" (PySem.W.fnOf "alike_share" "alike_share" (defArgs s_alike_share) (defBody s_alike_share) (defScope s_alike_share) .none kV_alike_share dc_alike_share pm_alike_share an_alike_share cd_alike_share ct_alike_share) ["counts", "starts"] (spF F_alike_share) := ⟨⟨_, PySem.W.mg_of X G a_alike_share, k_alike_share, w_alike_share Z_alike_share T C_fraction b_fraction C_ends_there b_ends_there C_check_starts b_check_starts⟩⟩
  have C_counts_of_pack : Cal P w K mg base 5 "counts_of_pack" (PySem.W.fnOf "counts_of_pack" "counts_of_pack" (defArgs s_counts_of_pack) (defBody s_counts_of_pack) (defScope s_counts_of_pack) .none kV_counts_of_pack dc_counts_of_pack pm_counts_of_pack an_counts_of_pack cd_counts_of_pack ct_counts_of_pack) ["pack", "values"] (spF F_counts_of_pack) := ⟨⟨_, PySem.W.mg_of X G a_counts_of_pack, k_counts_of_pack, w_counts_of_pack Z_counts_of_pack T C_are_counts b_are_counts C_check_pack b_check_pack⟩⟩
  have C_law_purse : Cal P w K mg base 1 "_law_purse" (PySem.W.fnOf "_law_purse" "_law_purse" (defArgs s_law_purse) (defBody s_law_purse) (defScope s_law_purse) .none kV_law_purse dc_law_purse pm_law_purse an_law_purse cd_law_purse ct_law_purse) ["script", "at"] (spF F_law_purse) := ⟨⟨_, PySem.W.mg_of X G a_law_purse, k_law_purse, w_law_purse Z_law_purse T ⟩⟩
  have C_law_mixed : Cal P w K mg base 1 "_law_mixed" (PySem.W.fnOf "_law_mixed" "_law_mixed" (defArgs s_law_mixed) (defBody s_law_mixed) (defScope s_law_mixed) .none kV_law_mixed dc_law_mixed pm_law_mixed an_law_mixed cd_law_mixed ct_law_mixed) ["seed", "spin", "at"] (spF F_law_mixed) := ⟨⟨_, PySem.W.mg_of X G a_law_mixed, k_law_mixed, w_law_mixed Z_law_mixed T ⟩⟩
  have C_law_draw : Cal P w K mg base 2 "_law_draw" (PySem.W.fnOf "_law_draw" "_law_draw" (defArgs s_law_draw) (defBody s_law_draw) (defScope s_law_draw) .none kV_law_draw dc_law_draw pm_law_draw an_law_draw cd_law_draw ct_law_draw) ["purse", "many"] (spP F_law_draw) := ⟨⟨_, PySem.W.mg_of X G a_law_draw, k_law_draw, w_law_draw Z_law_draw T C_law_mixed b_law_mixed⟩⟩
  have C_law_purses : Cal P w K mg base 2 "_law_purses" (PySem.W.fnOf "_law_purses" "_law_purses" (defArgs s_law_purses) (defBody s_law_purses) (defScope s_law_purses) .none kV_law_purses dc_law_purses pm_law_purses an_law_purses cd_law_purses ct_law_purses) ["script", "few"] (spF F_law_purses) := ⟨⟨_, PySem.W.mg_of X G a_law_purses, k_law_purses, w_law_purses Z_law_purses T C_law_purse b_law_purse⟩⟩
  have C_law_one_of : Cal P w K mg base 3 "_law_one_of" (PySem.W.fnOf "_law_one_of" "_law_one_of" (defArgs s_law_one_of) (defBody s_law_one_of) (defScope s_law_one_of) .none kV_law_one_of dc_law_one_of pm_law_one_of an_law_one_of cd_law_one_of ct_law_one_of) ["purse", "some"] (spP F_law_one_of) := ⟨⟨_, PySem.W.mg_of X G a_law_one_of, k_law_one_of, w_law_one_of Z_law_one_of T C_law_draw b_law_draw⟩⟩
  have C_law_shuffled : Cal P w K mg base 3 "_law_shuffled" (PySem.W.fnOf "_law_shuffled" "_law_shuffled" (defArgs s_law_shuffled) (defBody s_law_shuffled) (defScope s_law_shuffled) .none kV_law_shuffled dc_law_shuffled pm_law_shuffled an_law_shuffled cd_law_shuffled ct_law_shuffled) ["purse", "some"] (spP F_law_shuffled) := ⟨⟨_, PySem.W.mg_of X G a_law_shuffled, k_law_shuffled, w_law_shuffled Z_law_shuffled T C_law_draw b_law_draw⟩⟩
  have I_law_exact : ∀ m : Nat, FnG P w K mg base CX0 m A_law_exact _ ["mine", "theirs"] (spF (Law.I_law_exact m)) := fun m => by
    induction m with
    | zero => exact ⟨fun zs H Q E ⟨_, _, _, _, _, z, _⟩ => (nomatch z), fun _ _ _ _ _ _ _ _ _ _ _ _ _ _ ⟨_, _, _, _, _, z, _⟩ => nomatch z⟩
    | succ m ih => exact w_law_exact Z_law_exact T ⟨⟨_, PySem.W.mg_of X G a_law_exact, k_law_exact, ih⟩⟩ b_law_exact
  have C_law_exact : Cal P w K mg base 8 "_law_exact" (PySem.W.fnOf "_law_exact" "_law_exact" (defArgs s_law_exact) (defBody s_law_exact) (defScope s_law_exact) .none kV_law_exact dc_law_exact pm_law_exact an_law_exact cd_law_exact ct_law_exact) ["mine", "theirs"] (spF F_law_exact) := ⟨⟨_, PySem.W.mg_of X G a_law_exact, k_law_exact, I_law_exact 8⟩⟩
  have C_law_way : Cal P w K mg base 1 "_law_way" (PySem.W.fnOf "_law_way" "_law_way" (defArgs s_law_way) (defBody s_law_way) (defScope s_law_way) .none kV_law_way dc_law_way pm_law_way an_law_way cd_law_way ct_law_way) ["counts", "start"] (spF F_law_way) := ⟨⟨_, PySem.W.mg_of X G a_law_way, k_law_way, w_law_way Z_law_way T ⟩⟩
  have C_law_counts : Cal P w K mg base 4 "_law_counts" (PySem.W.fnOf "_law_counts" "_law_counts" (defArgs s_law_counts) (defBody s_law_counts) (defScope s_law_counts) .none kV_law_counts dc_law_counts pm_law_counts an_law_counts cd_law_counts ct_law_counts) ["purse", "most"] (spP F_law_counts) := ⟨⟨_, PySem.W.mg_of X G a_law_counts, k_law_counts, w_law_counts Z_law_counts T C_law_draw b_law_draw C_law_one_of b_law_one_of⟩⟩
  have C_law_part : Cal P w K mg base 1 "_law_part" (PySem.W.fnOf "_law_part" "_law_part" (defArgs s_law_part) (defBody s_law_part) (defScope s_law_part) .none kV_law_part dc_law_part pm_law_part an_law_part cd_law_part ct_law_part) ["above", "below"] (spF F_law_part) := ⟨⟨_, PySem.W.mg_of X G a_law_part, k_law_part, w_law_part Z_law_part T ⟩⟩
  have C_law_case_right : Cal P w K mg base 9 "_law_case_right" (PySem.W.fnOf "_law_case_right" "_law_case_right" (defArgs s_law_case_right) (defBody s_law_case_right) (defScope s_law_case_right) .none kV_law_case_right dc_law_case_right pm_law_case_right an_law_case_right cd_law_case_right ct_law_case_right) ["purse"] (spP F_law_case_right) := ⟨⟨_, PySem.W.mg_of X G a_law_case_right, k_law_case_right, w_law_case_right Z_law_case_right T C_ends_of b_ends_of C_way_from b_way_from C_law_exact b_law_exact C_alike_share b_alike_share C_first_common b_first_common C_law_part b_law_part C_law_way b_law_way C_law_draw b_law_draw C_law_counts b_law_counts k_alike_share_10 k_first_common_210 k_ends_of_0 k_way_from_10⟩⟩
  have C_law_pack_right : Cal P w K mg base 9 "_law_pack_right" (PySem.W.fnOf "_law_pack_right" "_law_pack_right" (defArgs s_law_pack_right) (defBody s_law_pack_right) (defScope s_law_pack_right) .none kV_law_pack_right dc_law_pack_right pm_law_pack_right an_law_pack_right cd_law_pack_right ct_law_pack_right) ["purse"] (spP F_law_pack_right) := ⟨⟨_, PySem.W.mg_of X G a_law_pack_right, k_law_pack_right, w_law_pack_right Z_law_pack_right T C_counts_of_pack b_counts_of_pack C_law_exact b_law_exact C_law_shuffled b_law_shuffled C_law_draw b_law_draw k_counts_of_pack_10⟩⟩
  exact w_law Z_law T C_law_exact b_law_exact C_alike_share b_alike_share C_way_from b_way_from C_counts_of_pack b_counts_of_pack C_ends_of b_ends_of C_first_common b_first_common C_law_case_right b_law_case_right C_law_pack_right b_law_pack_right C_law_purses b_law_purses
end Law

open PySem PySem.W PyProof.Rows
set_option maxRecDepth 100000 in
set_option maxHeartbeats 0 in
theorem PySem.Challenge.cw_suretricks_k62_whole_counting_on_holds : PySem.Challenge.rw_suretricks_k62_whole_counting_on.Holds := by
  w_on; o_law; k_head; (case hw => w_witness2)
  k_fill
  refine Z.walkZ (l := PySem.Challenge.rw_suretricks_k62_whole_counting_on) (n := 63) (k := 10) (x := "script") (Fl := Law.F_law) rfl (by decide) rfl ⟨rfl, by decide, by decide⟩ (fun w h Y => PySem.W.kIn_of Y) ?noLs ?F Law.law_true
  case noLs =>
    intro w
    exact Z.noList_of (by kernel_rfl)
  case F =>
    intro w mg fa h KX G hmg
    refine' Law.all_mk KX G hmg ?a_is_whole ?l_is_whole ?c_is_whole ?k_is_whole ?a_is_count ?l_is_count ?e_is_count ?c_is_count ?k_is_count ?a_is_pack ?l_is_pack ?c_is_pack ?k_is_pack ?a_check_pack ?l_check_pack ?c_check_pack ?k_check_pack ?a_fraction ?l_fraction ?c_fraction ?k_fraction ?a_are_counts ?l_are_counts ?c_are_counts ?k_are_counts ?a_check_counts ?l_check_counts ?c_check_counts ?k_check_counts ?a_check_start ?l_check_start ?c_check_start ?k_check_start ?a_way_there ?l_way_there ?c_way_there ?k_way_there ?a_way_from ?l_way_from ?c_way_from ?k_way_from ?a_ends_there ?l_ends_there ?c_ends_there ?k_ends_there ?a_ends_of ?l_ends_of ?c_ends_of ?k_ends_of ?a_first_common ?l_first_common ?c_first_common ?k_first_common ?a_check_starts ?l_check_starts ?c_check_starts ?k_check_starts ?a_alike_share ?l_alike_share ?c_alike_share ?k_alike_share ?a_counts_of_pack ?l_counts_of_pack ?c_counts_of_pack ?k_counts_of_pack ?a_law_purse ?l_law_purse ?c_law_purse ?k_law_purse ?a_law_mixed ?l_law_mixed ?c_law_mixed ?k_law_mixed ?a_law_draw ?l_law_draw ?c_law_draw ?k_law_draw ?a_law_purses ?l_law_purses ?c_law_purses ?k_law_purses ?a_law_one_of ?l_law_one_of ?c_law_one_of ?k_law_one_of ?a_law_shuffled ?l_law_shuffled ?c_law_shuffled ?k_law_shuffled ?a_law_exact ?l_law_exact ?c_law_exact ?k_law_exact ?a_law_way ?l_law_way ?c_law_way ?k_law_way ?a_law_counts ?l_law_counts ?c_law_counts ?k_law_counts ?a_law_part ?l_law_part ?c_law_part ?k_law_part ?a_law_case_right ?l_law_case_right ?c_law_case_right ?k_law_case_right ?a_law_pack_right ?l_law_pack_right ?c_law_pack_right ?k_law_pack_right ?a_law ?l_law ?c_law ?k_law ?z_all ?z_bool ?z_gcd ?z_int ?z_isinstance ?z_len ?z_list ?z_max ?z_min ?z_range ?z_repr ?z_set ?z_str ?z_sum ?z_tuple ?z_zip
    (case a_is_whole => k_is)
    (case l_is_whole => k_is)
    (case c_is_whole => k_is)
    (case k_is_whole => k_is)
    (case a_is_count => k_is)
    (case l_is_count => k_is)
    (case e_is_count => k_is)
    (case c_is_count => k_is)
    (case k_is_count => k_is)
    (case a_is_pack => k_is)
    (case l_is_pack => k_is)
    (case c_is_pack => k_is)
    (case k_is_pack => k_is)
    (case a_check_pack => k_is)
    (case l_check_pack => k_is)
    (case c_check_pack => k_is)
    (case k_check_pack => k_is)
    (case a_fraction => k_is)
    (case l_fraction => k_is)
    (case c_fraction => k_is)
    (case k_fraction => k_is)
    (case a_are_counts => k_is)
    (case l_are_counts => k_is)
    (case c_are_counts => k_is)
    (case k_are_counts => k_is)
    (case a_check_counts => k_is)
    (case l_check_counts => k_is)
    (case c_check_counts => k_is)
    (case k_check_counts => k_is)
    (case a_check_start => k_is)
    (case l_check_start => k_is)
    (case c_check_start => k_is)
    (case k_check_start => k_is)
    (case a_way_there => k_is)
    (case l_way_there => k_is)
    (case c_way_there => k_is)
    (case k_way_there => k_is)
    (case a_way_from => k_is)
    (case l_way_from => k_is)
    (case c_way_from => k_is)
    (case k_way_from => k_is)
    (case a_ends_there => k_is)
    (case l_ends_there => k_is)
    (case c_ends_there => k_is)
    (case k_ends_there => k_is)
    (case a_ends_of => k_is)
    (case l_ends_of => k_is)
    (case c_ends_of => k_is)
    (case k_ends_of => k_is)
    (case a_first_common => k_is)
    (case l_first_common => k_is)
    (case c_first_common => k_is)
    (case k_first_common => k_is)
    (case a_check_starts => k_is)
    (case l_check_starts => k_is)
    (case c_check_starts => k_is)
    (case k_check_starts => k_is)
    (case a_alike_share => k_is)
    (case l_alike_share => k_is)
    (case c_alike_share => k_is)
    (case k_alike_share => k_is)
    (case a_counts_of_pack => k_is)
    (case l_counts_of_pack => k_is)
    (case c_counts_of_pack => k_is)
    (case k_counts_of_pack => k_is)
    (case a_law_purse => k_is)
    (case l_law_purse => k_is)
    (case c_law_purse => k_is)
    (case k_law_purse => k_is)
    (case a_law_mixed => k_is)
    (case l_law_mixed => k_is)
    (case c_law_mixed => k_is)
    (case k_law_mixed => k_is)
    (case a_law_draw => k_is)
    (case l_law_draw => k_is)
    (case c_law_draw => k_is)
    (case k_law_draw => k_is)
    (case a_law_purses => k_is)
    (case l_law_purses => k_is)
    (case c_law_purses => k_is)
    (case k_law_purses => k_is)
    (case a_law_one_of => k_is)
    (case l_law_one_of => k_is)
    (case c_law_one_of => k_is)
    (case k_law_one_of => k_is)
    (case a_law_shuffled => k_is)
    (case l_law_shuffled => k_is)
    (case c_law_shuffled => k_is)
    (case k_law_shuffled => k_is)
    (case a_law_exact => k_is)
    (case l_law_exact => k_is)
    (case c_law_exact => k_is)
    (case k_law_exact => k_is)
    (case a_law_way => k_is)
    (case l_law_way => k_is)
    (case c_law_way => k_is)
    (case k_law_way => k_is)
    (case a_law_counts => k_is)
    (case l_law_counts => k_is)
    (case c_law_counts => k_is)
    (case k_law_counts => k_is)
    (case a_law_part => k_is)
    (case l_law_part => k_is)
    (case c_law_part => k_is)
    (case k_law_part => k_is)
    (case a_law_case_right => k_is)
    (case l_law_case_right => k_is)
    (case c_law_case_right => k_is)
    (case k_law_case_right => k_is)
    (case a_law_pack_right => k_is)
    (case l_law_pack_right => k_is)
    (case c_law_pack_right => k_is)
    (case k_law_pack_right => k_is)
    (case a_law => k_is)
    (case l_law => k_is)
    (case c_law => k_is)
    (case k_law => k_is)
    (case z_all => k_is)
    (case z_bool => k_is)
    (case z_gcd => k_is)
    (case z_int => k_is)
    (case z_isinstance => k_is)
    (case z_len => k_is)
    (case z_list => k_is)
    (case z_max => k_is)
    (case z_min => k_is)
    (case z_range => k_is)
    (case z_repr => k_is)
    (case z_set => k_is)
    (case z_str => k_is)
    (case z_sum => k_is)
    (case z_tuple => k_is)
    (case z_zip => k_is)
