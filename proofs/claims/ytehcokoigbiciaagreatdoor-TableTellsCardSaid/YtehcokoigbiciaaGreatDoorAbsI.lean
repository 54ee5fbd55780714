/- Pure programs: trees of nodes; what they compute; how a check of all their ways serves all values. -/
import Derived.Test.YtehcokoigbiciaaGreatDoorAbsH
import Derived.Control

/-! # AbsTree -/
namespace Go.Abs
noncomputable section

inductive Tree where
  | step (nd : Nd) (t : Tree)
  | ite (n : Nat) (t e : Tree)
  | ret (l : List Nat)
  | tail (f : Nat) (l : List Nat)
  | dead                          -- no answer: a way that is nobody's
  deriving Inhabited

abbrev Itp := Nat → List GV → Option (List GV)

def Tree.den (I : Itp) : Tree → List GV → Option (List GV)
  | .step nd t, env => match nd.den I (fun n => env[n]?) with
    | some g => t.den I (env ++ [g])
    | none => none
  | .ite n t e, env => match env[n]? with
    | some (.b true) => t.den I env
    | some (.b false) => e.den I env
    | _ => none
  | .ret l, env => valsOf (fun n => env[n]?) l
  | .tail f l, env => match valsOf (fun n => env[n]?) l with
    | some gs => I f gs
    | none => none
  | .dead, _ => none

/-- How a way ends. -/
inductive Leaf where
  | ret (l : List Nat)
  | tail (f : Nat) (l : List Nat)

def Tree.chk (p : List Nd → List (Nat × Bool) → Leaf → Bool) : Tree → List Nd → List (Nat × Bool) → Bool
  | .step nd t, ns, ds => t.chk p (ns ++ [nd]) ds
  | .ite n t e, ns, ds => t.chk p ns ((n, true) :: ds) && e.chk p ns ((n, false) :: ds)
  | .ret l, ns, ds => p ns ds (.ret l)
  | .tail f l, ns, ds => p ns ds (.tail f l)
  | .dead, _, _ => true

/-! ### More values change nothing -/
theorem valsOf_mono {val val' : Nat → Option GV} (h : ∀ n g, val n = some g → val' n = some g) : ∀ {l : List Nat} {gs : List GV}, valsOf val l = some gs → valsOf val' l = some gs
  | [], gs, hv => hv
  | n :: l, gs, hv => by
    simp only [valsOf] at hv ⊢
    split at hv
    · next g r h1 h2 => rw [h n g h1, valsOf_mono h h2]; exact hv
    · cases hv

theorem Nd.den_mono {I : Itp} {val val' : Nat → Option GV} (h : ∀ n g, val n = some g → val' n = some g) {nd : Nd} {g : GV} (hd : nd.den I val = some g) : nd.den I val' = some g := by
  cases nd <;> simp only [Nd.den] at hd ⊢
  case ci => exact hd
  case cb => exact hd
  case cs => exact hd
  case arg => exact hd
  case mk l =>
    split at hd
    · next gs hg => rw [valsOf_mono h hg]; exact hd
    · cases hd
  case ml l =>
    obtain ⟨gs, hg, e⟩ := Option.map_eq_some_iff.1 hd
    rw [valsOf_mono h hg]; simpa using e
  case call f l j =>
    split at hd
    · next gs hg => rw [valsOf_mono h hg]; exact hd
    · cases hd
  case upd size off a i vs =>
    split at hd
    · next xs k j gs h1 h2 h3 => rw [h _ _ h1, h _ _ h2, valsOf_mono h h3]; exact hd
    · cases hd
  all_goals
    split at hd
    all_goals first
      | (cases hd; done)
      | (simp only [h _ _ (by assumption)]; exact hd)
      | (rename_i h1 h2 h3; rw [h _ _ h1, h _ _ h2, h _ _ h3]; exact hd)
      | (rename_i h1 h2; rw [h _ _ h1, h _ _ h2]; exact hd)
      | (rename_i h1; rw [h _ _ h1]; exact hd)

/-- What is known of the nodes of a way, and its values. -/
structure WayOk (I : Itp) (ns : List Nd) (ds : List (Nat × Bool)) (env : List GV) : Prop where
  len : ns.length = env.length
  node : ∀ (n : Nat) nd, ns[n]? = some nd → nd ≠ .arg → ∃ g, env[n]? = some g ∧ nd.den I (fun k => env[k]?) = some g
  dec : ∀ (n : Nat) (b : Bool), (n, b) ∈ ds → env[n]? = some (.b b)

theorem get_snoc {α : Type} {l : List α} {x a : α} {n : Nat} (h : l[n]? = some a) : (l ++ [x])[n]? = some a := by
  have := (List.getElem?_eq_some_iff.1 h).1
  rw [List.getElem?_append_left this]; exact h

theorem Tree.chk_ok {I : Itp} {p : List Nd → List (Nat × Bool) → Leaf → Bool} : ∀ (t : Tree) {ns : List Nd} {ds : List (Nat × Bool)} {env out : List GV}, t.chk p ns ds = true → WayOk I ns ds env → t.den I env = some out →
    ∃ ns' ds' env' lf, p ns' ds' lf = true ∧ WayOk I ns' ds' env' ∧ (∃ more, env' = env ++ more) ∧ (match lf with | .ret l => valsOf (fun n => env'[n]?) l = some out | .tail f l => ∃ gs, valsOf (fun n => env'[n]?) l = some gs ∧ I f gs = some out)
  | .step nd t, ns, ds, env, out, hc, hw, hd => by
    simp only [Tree.den] at hd
    split at hd
    · next g hg =>
      have hw' : WayOk I (ns ++ [nd]) ds (env ++ [g]) := by
        refine ⟨by simp [hw.len], fun n x hn hx => ?_, fun n b hb => get_snoc (hw.dec n b hb)⟩
        by_cases hlt : n < ns.length
        · rw [List.getElem?_append_left hlt] at hn
          obtain ⟨g', h1, h2⟩ := hw.node n x hn hx
          exact ⟨g', get_snoc h1, Nd.den_mono (fun k a ha => get_snoc ha) h2⟩
        · have hlen : n = ns.length := by
            have := (List.getElem?_eq_some_iff.1 hn).1
            simp at this; omega
          subst hlen
          simp at hn
          subst hn
          exact ⟨g, by rw [hw.len]; simp, Nd.den_mono (fun k a ha => get_snoc ha) hg⟩
      obtain ⟨ns', ds', env', lf, h1, h2, ⟨more, h3⟩, h4⟩ := Tree.chk_ok t hc hw' hd
      exact ⟨ns', ds', env', lf, h1, h2, ⟨[g] ++ more, by rw [h3, List.append_assoc]⟩, h4⟩
    · cases hd
  | .ite n t e, ns, ds, env, out, hc, hw, hd => by
    simp only [Tree.chk, Bool.and_eq_true] at hc
    simp only [Tree.den] at hd
    split at hd
    · next hn =>
      refine Tree.chk_ok t hc.1 ⟨hw.len, hw.node, fun k b hb => ?_⟩ hd
      rcases List.mem_cons.1 hb with hb | hb
      · cases hb; exact hn
      · exact hw.dec k b hb
    · next hn =>
      refine Tree.chk_ok e hc.2 ⟨hw.len, hw.node, fun k b hb => ?_⟩ hd
      rcases List.mem_cons.1 hb with hb | hb
      · cases hb; exact hn
      · exact hw.dec k b hb
    · cases hd
  | .ret l, ns, ds, env, out, hc, hw, hd => ⟨ns, ds, env, .ret l, hc, hw, ⟨[], by simp⟩, hd⟩
  | .tail f l, ns, ds, env, out, hc, hw, hd => by
    simp only [Tree.den] at hd
    split at hd
    · next gs hg => exact ⟨ns, ds, env, .tail f l, hc, hw, ⟨[], by simp⟩, gs, hg, hd⟩
    · cases hd
  | .dead, _, _, _, _, _, _, hd => by simp [Tree.den] at hd

/-! ### A program: a list of trees; calls by fuel, and in the limit -/
/-- How a result, or a parameter, is told: a scalar, or so many cells. -/
inductive OSh where
  | sc
  | ag (n : Nat)
def shFits : List OSh → List GV → Bool
  | [], [] => true
  | .sc :: l, g :: m => g.scalar && shFits l m
  | .ag n :: l, g :: m => !g.scalar && Nat.beq g.cells.length n && shFits l m
  | _, _ => false

inductive PDef where
  | tree (n : Nat) (t : Tree)             -- a loop, of so many parameters
  | fn (shIn shOut : List OSh) (t : Tree)         -- a function
  | prim (f : List GV → Option (List GV))

def PDef.den (I : Itp) : PDef → List GV → Option (List GV)
  | .tree n t, gs => if gs.length = n then t.den I gs else none
  | .fn shIn shOut t, gs => if shFits shIn gs = true then match t.den I gs with
    | some out => if shFits shOut out = true then some out else none
    | none => none
    else none
  | .prim f, gs => f gs

abbrev PProg := Nat → Option PDef

def PProg.run (TT : PProg) : Nat → Itp
  | 0, _, _ => none
  | n + 1, k, gs => match TT k with
    | some d => d.den (PProg.run TT n) gs
    | none => none

def Itp.le (I J : Itp) : Prop := ∀ k gs out, I k gs = some out → J k gs = some out

theorem Nd.den_le {I J : Itp} (h : I.le J) {val : Nat → Option GV} {nd : Nd} {g : GV} (hd : nd.den I val = some g) : nd.den J val = some g := by
  cases nd with
  | call f l j =>
    simp only [Nd.den] at hd ⊢
    split at hd
    · next gs hg =>
      split at hd
      · next r hr => rw [h f gs r hr]; exact hd
      · cases hd
    · cases hd
  | _ => exact hd
theorem Tree.den_le {I J : Itp} (h : I.le J) : ∀ (t : Tree) {env out : List GV}, t.den I env = some out → t.den J env = some out
  | .step nd t, env, out, hd => by
    simp only [Tree.den] at hd ⊢
    split at hd
    · next g hg => rw [Nd.den_le h hg]; exact Tree.den_le h t hd
    · cases hd
  | .ite n t e, env, out, hd => by
    simp only [Tree.den] at hd ⊢
    split at hd
    · exact Tree.den_le h t hd
    · exact Tree.den_le h e hd
    · cases hd
  | .ret l, env, out, hd => hd
  | .tail f l, env, out, hd => by
    simp only [Tree.den] at hd ⊢
    split at hd
    · exact h _ _ _ hd
    · cases hd
  | .dead, _, _, hd => by simp [Tree.den] at hd
theorem PDef.den_le {I J : Itp} (h : I.le J) (d : PDef) {gs out : List GV} (hd : d.den I gs = some out) : d.den J gs = some out := by
  cases d with
  | tree n t =>
    simp only [PDef.den] at hd ⊢
    split at hd
    · next hn => rw [if_pos hn]; exact t.den_le h hd
    · cases hd
  | fn sh so t =>
    simp only [PDef.den] at hd ⊢
    split at hd
    · next hf =>
      split at hd
      · next o ho => rw [if_pos hf, t.den_le h ho]; exact hd
      · cases hd
    · cases hd
  | prim f => exact hd

theorem PProg.run_succ (TT : PProg) : ∀ n, (TT.run n).le (TT.run (n + 1))
  | 0, k, gs, out, h => by simp [PProg.run] at h
  | n + 1, k, gs, out, h => by
    simp only [PProg.run] at h
    rw [PProg.run]
    split at h
    · next d hd => exact d.den_le (PProg.run_succ TT n) h
    · cases h
theorem PProg.run_mono (TT : PProg) {n m : Nat} (h : n ≤ m) : (TT.run n).le (TT.run m) := by
  induction h with
  | refl => exact fun _ _ _ h => h
  | step _ ih => exact fun k gs out hh => PProg.run_succ TT _ k gs out (ih k gs out hh)

open Classical in
/-- What a call comes to, with fuel enough. -/
def PProg.lim (TT : PProg) : Itp := fun k gs => if h : ∃ out n, TT.run n k gs = some out then some (Classical.choose h) else none
theorem PProg.lim_of {TT : PProg} {n k : Nat} {gs out : List GV} (h : TT.run n k gs = some out) : TT.lim k gs = some out := by
  unfold PProg.lim
  have hex : ∃ out n, TT.run n k gs = some out := ⟨out, n, h⟩
  rw [dif_pos hex]
  obtain ⟨m, hm⟩ := Classical.choose_spec hex
  have h1 := TT.run_mono (Nat.le_max_left n m) k gs out h
  have h2 := TT.run_mono (Nat.le_max_right n m) k gs _ hm
  rw [h1] at h2
  exact h2.symm
theorem PProg.of_lim {TT : PProg} {k : Nat} {gs out : List GV} (h : TT.lim k gs = some out) : ∃ n, TT.run n k gs = some out := by
  unfold PProg.lim at h
  split at h
  · next hex =>
    cases h
    exact Classical.choose_spec hex
  · cases h

/-- Finitely many calls have fuel in common. -/
theorem Nd.den_lim {TT : PProg} {val : Nat → Option GV} {nd : Nd} {g : GV} (hd : nd.den TT.lim val = some g) : ∃ n, nd.den (TT.run n) val = some g := by
  cases nd with
  | call f l j =>
    simp only [Nd.den] at hd ⊢
    split at hd
    · next gs hg =>
      split at hd
      · next r hr =>
        obtain ⟨n, hn⟩ := PProg.of_lim hr
        exact ⟨n, by rw [hn]; exact hd⟩
      · cases hd
    · cases hd
  | _ => exact ⟨0, hd⟩
theorem Tree.den_lim {TT : PProg} : ∀ (t : Tree) {env out : List GV}, t.den TT.lim env = some out → ∃ n, t.den (TT.run n) env = some out
  | .step nd t, env, out, hd => by
    simp only [Tree.den] at hd
    split at hd
    · next g hg =>
      obtain ⟨n, hn⟩ := Nd.den_lim hg
      obtain ⟨m, hm⟩ := Tree.den_lim t hd
      refine ⟨max n m, ?_⟩
      simp only [Tree.den]
      rw [Nd.den_le (TT.run_mono (Nat.le_max_left n m)) hn]
      exact t.den_le (TT.run_mono (Nat.le_max_right n m)) hm
    · cases hd
  | .ite n t e, env, out, hd => by
    simp only [Tree.den] at hd ⊢
    split at hd
    · next h => obtain ⟨m, hm⟩ := Tree.den_lim t hd; exact ⟨m, hm⟩
    · next h => obtain ⟨m, hm⟩ := Tree.den_lim e hd; exact ⟨m, hm⟩
    · cases hd
  | .ret l, env, out, hd => ⟨0, hd⟩
  | .tail f l, env, out, hd => by
    simp only [Tree.den] at hd ⊢
    split at hd
    · exact PProg.of_lim hd
    · cases hd
  | .dead, _, _, hd => by simp [Tree.den] at hd
/-- A call's unfolding. -/
theorem PProg.lim_eq {TT : PProg} {k : Nat} {d : PDef} (hk : TT k = some d) {gs out : List GV} (h : d.den TT.lim gs = some out) : TT.lim k gs = some out := by
  cases d with
  | tree m t =>
    simp only [PDef.den] at h
    split at h
    · next hm =>
      obtain ⟨n, hn⟩ := Tree.den_lim t h
      exact PProg.lim_of (n := n + 1) (by simp only [PProg.run, hk, PDef.den, if_pos hm]; exact hn)
    · cases h
  | fn sh so t =>
    simp only [PDef.den] at h
    split at h
    · next hf =>
      split at h
      · next o ho =>
        obtain ⟨n, hn⟩ := Tree.den_lim t ho
        exact PProg.lim_of (n := n + 1) (by simp only [PProg.run, hk, PDef.den, hf, if_true, hn]; exact h)
      · cases h
    · cases h
  | prim f => exact PProg.lim_of (n := 1) (by simp only [PProg.run, hk]; exact h)
/-- What all definitions keep, given that their calls do, all calls do. -/
theorem PProg.lim_ind {TT : PProg} {C : Nat → List GV → List GV → Prop} (h : ∀ k d, TT k = some d → ∀ I : Itp, (∀ k gs out, I k gs = some out → C k gs out) → ∀ gs out, d.den I gs = some out → C k gs out) : ∀ k gs out, TT.lim k gs = some out → C k gs out := by
  have : ∀ n k gs out, TT.run n k gs = some out → C k gs out := by
    intro n
    induction n with
    | zero => intro k gs out hh; simp [PProg.run] at hh
    | succ n ih =>
      intro k gs out hh
      simp only [PProg.run] at hh
      split at hh
      · next d hd => exact h k d hd _ ih gs out hh
      · cases hh
  intro k gs out hh
  obtain ⟨n, hn⟩ := PProg.of_lim hh
  exact this n k gs out hn
end
end Go.Abs

/-! # AbsDec -/
/-! Trees written as numbers: symbols to a base b, of which those from 256 on stand for two others. -/
namespace Go.Abs
open Go

def tokX (R w : Nat) : Nat → Nat → List Nat → List Nat
  | 0, _, l => l
  | f + 1, s, l => match Nat.blt s 256 with
    | true => s :: l
    | false => tokX R w f ((R >>> (2 * w * (s - 256))) % 2 ^ w) (tokX R w f ((R >>> (2 * w * (s - 256) + w)) % 2 ^ w) l)
def toks (R w b : Nat) : Nat → Nat → List Nat
  | 0, _ => []
  | n + 1, x => tokX R w 1000 (x % b) (toks R w b n (x / b))
def dg (c : Nat) : Nat := match Nat.blt c 58 with
  | true => c - 48
  | false => match Nat.blt c 91 with
    | true => c - 55
    | false => match Nat.beq c 95 with
      | true => 62
      | false => c - 61
/-- A number, written to the base 63. -/
def sN (s : String) : Nat := s.toList.foldl (fun a c => a * 63 + dg c.toNat) 0
def rN : List Nat → Nat × List Nat
  | t :: u :: l => match Nat.blt t 224 with
    | true => (t, u :: l)
    | false => ((t - 224) * 256 + u, l)
  | [t] => (t, [])
  | [] => (0, [])
/-- A place: so many ahead of n. -/
def rR (n : Nat) (l : List Nat) : Nat × List Nat := match rN l with | (a, l) => (n - a, l)
def rL (n : Nat) : Nat → Nat → List Nat → List Nat × List Nat
  | 0, _, l => ([], l)
  | k + 1, p, t :: l => match Nat.blt t 128 with
    | true => match rL n k (p + t - 64) l with
      | (x, l) => ((p + t - 64) :: x, l)
    | false => match rR n l with
      | (a, l) => match rL n k a l with
        | (x, l) => (a :: x, l)
  | _, _, [] => ([], [])
def rLL (n : Nat) (l : List Nat) : List Nat × List Nat := match rN l with | (k, l) => rL n k n l
def rK : Nat → IntKind
  | 0 => .i64 | 1 => .u64 | 2 => .u8 | 3 => .i32 | 4 => .u32 | 5 => .i16 | 6 => .u16 | _ => .i8
def rO : Nat → BinOp
  | 0 => .eql | 1 => .add | 2 => .neq | 3 => .lss | 4 => .gtr | 5 => .sub | 6 => .geq | 7 => .leq
  | 8 => .and | 9 => .quo | 10 => .shr | 11 => .mul | 12 => .rem | 13 => .xor | 14 => .or | _ => .shl

def r1 (n : Nat) (f : Nat → Nd) (l : List Nat) : Nd × List Nat := match rR n l with | (a, l) => (f a, l)
def r2 (n : Nat) (f : Nat → Nat → Nd) (l : List Nat) : Nd × List Nat := match rR n l with | (a, l) => r1 n (f a) l
def r3 (n : Nat) (f : Nat → Nat → Nat → Nd) (l : List Nat) : Nd × List Nat := match rR n l with | (a, l) => r2 n (f a) l
def r0 (f : Nat → Nd) (l : List Nat) : Nd × List Nat := match rN l with | (a, l) => (f a, l)
def r00 (g : Nat → List Nat → Nd × List Nat) (l : List Nat) : Nd × List Nat := match rN l with | (a, l) => g a l
def rLs (n : Nat) (f : List Nat → Nd) (l : List Nat) : Nd × List Nat := match rLL n l with | (a, l) => (f a, l)
/-- One node, of the kind t. -/
def rNd (cI : Nat → Int) (cT : Nat → List UInt8) (n t : Nat) (l : List Nat) : Nd × List Nat :=
  if t = 4 then (r00 fun o => r2 n (.bin (rO o))) l else
  if t = 5 then (r00 fun k => r0 fun a => .ci (rK k) (cI a)) l else
  if t = 6 then (r00 fun o => r1 n (.cell o)) l else
  if t = 7 then (r00 fun f l => match rLL n l with | (a, l) => r0 (fun j => .call f a j) l) l else
  if t = 8 then (r0 fun a => .cs (cT a)) l else
  if t = 9 then rLs n .mk l else
  if t = 10 then rLs n .ml l else
  if t = 11 then (r0 fun b => .cb (Nat.beq b 1)) l else
  if t = 12 then r1 n .len l else
  if t = 13 then (r00 fun k => r1 n (.conv (rK k))) l else
  if t = 14 then r1 n .slen l else
  if t = 15 then (r00 fun s => r2 n (.at s)) l else
  if t = 16 then r3 n .ssub l else
  if t = 17 then r1 n (.un .not) l else
  if t = 18 then (r00 fun s => r00 fun z => r2 n (.app s z)) l else
  if t = 19 then r2 n .sidx l else
  if t = 20 then (r00 fun o l => match rLL 0 l with | (ks, l) => r2 n (.binc (rO o) ks) l) l else
  if t = 21 then r2 n .idx l else
  if t = 22 then r1 n .str l else
  if t = 23 then r1 n .bytes l else
  if t = 24 then (r00 fun s => r00 fun z => r3 n (.rep s z)) l else
  if t = 25 then r3 n .mget l else
  if t = 26 then (r00 fun s => r3 n (.lsub s)) l else
  if t = 27 then (r00 fun s => r00 fun o l => match rR n l with | (a, l) => match rR n l with | (b, l) => rLs n (.upd s o a b) l) l else
  if t = 28 then r2 n (.mm false) l else
  if t = 29 then r2 n (.mm true) l else
  if t = 30 then r3 n .mput l else
  if t = 31 then r2 n .mhas l else
  if t = 32 then r1 n (.un .neg) l else
  if t = 33 then r2 n .isi l else
  if t = 37 then r1 n (.un .xor) l else
  if t = 34 then r2 n .same l else
  if t = 35 then r1 n .sid l else
  (r00 fun o => r2 n (.binb (rO o))) l

def rT (cI : Nat → Int) (cT : Nat → List UInt8) (h : Tree) : Nat → Nat → List Nat → Tree × List Nat
  | 0, _, l => (.dead, l)
  | _, _, [] => (.dead, [])
  | f + 1, n, t :: l => match t with
    | 0 => (h, l)
    | 1 => match rR n l with | (a, l) => match rT cI cT h f n l with | (x, l) => match rT cI cT h f n l with | (y, l) => (.ite a x y, l)
    | 2 => match rLL n l with | (a, l) => (.ret a, l)
    | 3 => match rN l with | (g, l) => match rLL n l with | (a, l) => (.tail g a, l)
    | 38 => (.dead, l)
    | _ => match rNd cI cT n t l with | (d, l) => match rT cI cT h f (n + 1) l with | (x, l) => (.step d x, l)

def rS (l : List Nat) : List OSh × List Nat := match rLL 0 l with | (a, l) => (a.map fun k => match k with
  | 0 => .sc
  | k + 1 => .ag (k + 1), l)
/-- A definition; h stands where a way goes on elsewhere. -/
def rP (cI : Nat → Int) (cT : Nat → List UInt8) (h : Tree) : List Nat → PDef
  | 0 :: l => match rS l with | (a, l) => match rS l with | (b, l) => .fn a b (rT cI cT h 2000 a.length l).1
  | _ :: l => match rN l with | (n, l) => .tree n (rT cI cT h 2000 n l).1
  | [] => .tree 0 .dead
/-- One of a list. -/
def gT : List PDef → Nat → PDef
  | a :: _, 0 => a
  | _ :: l, n + 1 => gT l n
  | [], _ => .tree 0 .dead
end Go.Abs

/-! # AbsAT -/
namespace Go.Abs
noncomputable section
set_option linter.unusedSectionVars false
set_option linter.unusedVariables false
variable {P : Program}

/-! ### A loop, one round more -/
def Inl (P : Program) (c : Code) (Q : Exit → Act → World → Prop) (a : Act) (w : World) : Prop := ∀ b k cs, ∃ e a' w', Q e a' w' ∧ Arrives P (lone (b.at a (.code c :: .inLoop c :: k)) cs w) b k cs e a' w'
theorem Inl.step {c : Code} {Q : Exit → Act → World → Prop} {a : Act} {w : World} (h : c.wp P (Exit.then (Inl P c Q) Q) a w) : Inl P c Q a w := by
  intro b k cs
  obtain ⟨e, a₁, w₁, hq, harr⟩ := h b (.inLoop c :: k) cs
  cases e with
  | normal =>
    obtain ⟨e₂, a₂, w₂, hq₂, harr₂⟩ := hq b k cs
    exact ⟨e₂, a₂, w₂, hq₂, .of_steps (Steps.trans harr (.one step_inLoop)) harr₂⟩
  | exit id => exact ⟨_, a₁, w₁, hq, .pass (x := .inLoop c) rfl (fun _ _ => .inl (by simp)) harr⟩
  | goto l => exact ⟨_, a₁, w₁, hq, .pass (x := .inLoop c) rfl (fun _ _ => .inl (by simp)) harr⟩
  | ret => exact ⟨_, a₁, w₁, hq, .pass (x := .inLoop c) rfl (fun _ _ => .inl (by simp)) harr⟩
  | panic ch => exact ⟨_, a₁, w₁, hq, .pass (x := .inLoop c) rfl (fun _ _ => .inl (by simp)) harr⟩
  | outgrown => exact ⟨_, a₁, w₁, hq, .pass (x := .inLoop c) rfl (fun _ _ => .inl (by simp)) harr⟩
theorem Inl.loop {c : Code} {Q : Exit → Act → World → Prop} {a : Act} {w : World} (h : Inl P c Q a w) : (Code.loop c).wp P Q a w := by
  intro b k cs
  obtain ⟨e, a', w', hq, harr⟩ := h b k cs
  exact ⟨e, a', w', hq, .of_steps (.one step_loop) harr⟩

section
variable [TabsOf]
def AT (P : Program) (c : Code) (a : AAct) (σ : ASt) (Q : AExit → AAct → ASt → Prop) : Prop :=
  ∀ w0 ro0 η w A K, Fresh P w0 ro0 η σ w → σ.lock = 0 → TR P η a A → (∀ e a' σ' η' A' w', Q e a' σ' → Fresh P w0 ro0 η' σ' w' → σ'.lock = 0 → TR P η' a' A' → K e.toExit A' w') → c.wp P K A w

variable {c b x y z : Code} {a a' a2 : AAct} {σ σ' σ2 : ASt} {Q R : AExit → AAct → ASt → Prop}

theorem AT.mono (h : AT P c a σ R) (hq : ∀ e a' σ', R e a' σ' → Q e a' σ') : AT P c a σ Q :=
  fun w0 ro0 η w A K hF hl ht hK => h w0 ro0 η w A K hF hl ht fun e a' σ' η' A' w' hr => hK e a' σ' η' A' w' (hq _ _ _ hr)

def seqQ (P : Program) (y : Code) (Q : AExit → AAct → ASt → Prop) : AExit → AAct → ASt → Prop
  | .normal, a, σ => AT P y a σ Q
  | e, a, σ => Q e a σ
theorem AT.seq (h : AT P x a σ (seqQ P y Q)) : AT P (.seq x y) a σ Q := by
  intro w0 ro0 η w A K hF hl ht hK
  refine wp_seq ?_
  refine h w0 ro0 η w A _ hF hl ht ?_
  intro e a' σ' η' A' w' hq hF' hl' ht'
  cases e with
  | normal => exact hq w0 ro0 η' w' A' K hF' hl' ht' hK
  | exit id => exact hK _ a' σ' η' A' w' hq hF' hl' ht'
  | ret => exact hK _ a' σ' η' A' w' hq hF' hl' ht'

theorem AT.cond {o : Operand} {t : Bool} (ho : dB (a.eval o) = some (.b t)) (h : AT P (if t then y else z) a σ Q) : AT P (.cond o y z) a σ Q := by
  intro w0 ro0 η w A K hF hl ht hK
  obtain ⟨vd, ho, himp⟩ := dB_ok ho
  have hv := himp _ _ (eval_ok hF.rel ht o _ ho)
  simp only [VR] at hv
  exact wp_cond hv (h w0 ro0 η w A K hF hl ht hK)

def blockQ (id : Nat) (Q : AExit → AAct → ASt → Prop) : AExit → AAct → ASt → Prop
  | .exit id', a, σ => if id' = id then Q .normal a σ else Q (.exit id') a σ
  | e, a, σ => Q e a σ
theorem AT.block {id : Nat} (h : AT P b a σ (blockQ id Q)) : AT P (.block id b) a σ Q := by
  intro w0 ro0 η w A K hF hl ht hK
  refine wp_block ?_
  refine h w0 ro0 η w A _ hF hl ht ?_
  intro e a' σ' η' A' w' hq hF' hl' ht'
  cases e with
  | normal => exact hK .normal a' σ' η' A' w' hq hF' hl' ht'
  | ret => exact hK .ret a' σ' η' A' w' hq hF' hl' ht'
  | exit id' =>
    simp only [blockQ] at hq
    simp only [AExit.toExit, Exit.inBlock]
    split at hq
    · next e => rw [if_pos e]; exact hK .normal a' σ' η' A' w' hq hF' hl' ht'
    · next e => rw [if_neg e]; exact hK (.exit id') a' σ' η' A' w' hq hF' hl' ht'

/-- A loop, from within. -/
def ATL (P : Program) (b : Code) (a : AAct) (σ : ASt) (Q : AExit → AAct → ASt → Prop) : Prop :=
  ∀ w0 ro0 η w A K, Fresh P w0 ro0 η σ w → σ.lock = 0 → TR P η a A → (∀ e a' σ' η' A' w', Q e a' σ' → Fresh P w0 ro0 η' σ' w' → σ'.lock = 0 → TR P η' a' A' → K e.toExit A' w') → Inl P b K A w
theorem ATL.at (h : ATL P b a σ Q) : AT P (.loop b) a σ Q :=
  fun w0 ro0 η w A K hF hl ht hK => (h w0 ro0 η w A K hF hl ht hK).loop
def loopQ (P : Program) (b : Code) (Q : AExit → AAct → ASt → Prop) : AExit → AAct → ASt → Prop
  | .normal, a, σ => ATL P b a σ Q
  | e, a, σ => Q e a σ
theorem ATL.step (h : AT P b a σ (loopQ P b Q)) : ATL P b a σ Q := by
  intro w0 ro0 η w A K hF hl ht hK
  refine Inl.step ?_
  refine h w0 ro0 η w A _ hF hl ht ?_
  intro e a' σ' η' A' w' hq hF' hl' ht'
  cases e with
  | normal => exact hq w0 ro0 η' w' A' K hF' hl' ht' hK
  | exit id => exact hK _ a' σ' η' A' w' hq hF' hl' ht'
  | ret => exact hK _ a' σ' η' A' w' hq hF' hl' ht'

/-- Any piece of code that the evaluator runs. -/
theorem AT.run {run : Code → AAct → ASt → Option (AExit × AAct × ASt)} (hr : RunOk P run) {e : AExit} (h : run c a σ = some (e, a', σ')) (hq : Q e a' σ') : AT P c a σ Q := by
  intro w0 ro0 η w A K hF hl ht hK
  refine hr c a σ e a' σ' h η w A K hF.rel ht ?_
  intro η' A' w' hst ht'
  exact hK e a' σ' η' A' w' hq (hF.step hl hst) (hst.lock.trans hl) ht'
end

/-! ### Code whose loops are numbered -/
inductive AC where
  | plain (c : Code)
  | seq (x y : AC)
  | cond (o : Operand) (y z : AC)
  | block (id : Nat) (b : AC)
  | loop (k : Nat) (b : Code)
  | peel (x : AC) (k : Nat) (b : Code)   -- a loop whose first round is told by itself

def AC.erase : AC → Code
  | .plain c => c
  | .seq x y => .seq x.erase y.erase
  | .cond o y z => .cond o y.erase z.erase
  | .block id b => .block id b.erase
  | .loop _ b => .loop b
  | .peel _ _ b => .loop b
/-- The first rounds told are the loops' own. -/
def AC.Good : AC → Prop
  | .plain _ => True
  | .seq x y => x.Good ∧ y.Good
  | .cond _ y z => y.Good ∧ z.Good
  | .block _ b => b.Good
  | .loop _ _ => True
  | .peel x _ b => x.erase = b ∧ x.Good

def hasLoop : Code → Bool
  | .seq x y => hasLoop x || hasLoop y
  | .cond _ y z => hasLoop y || hasLoop z
  | .block _ b => hasLoop b
  | .loop _ => true
  | _ => false

def annotF (ps : List Nat) : Code → Nat → AC × Nat
  | .seq x y, n => match annotF ps x n with
    | (a, n1) => match annotF ps y n1 with
      | (b, n2) => (.seq a b, n2)
  | .cond o y z, n => match annotF ps y n with
    | (a, n1) => match annotF ps z n1 with
      | (b, n2) => (.cond o a b, n2)
  | .block id b, n => match annotF ps b n with
    | (a, n1) => (.block id a, n1)
  | .loop b, n => if ps.contains (2 * n + 1) then (.plain (.loop b), n + 1) else match annotF ps b (n + 1) with
    | (x, n1) => if ps.contains (2 * n) then (.peel x n b, n1) else (.loop n b, n + 1)
  | c, n => (.plain c, n)
/-- Loops numbered; those with 2 * n in 'ps' with their first round, those with 2 * n + 1 as the evaluator runs them. -/
def annot (ps : List Nat) (c : Code) : AC := (annotF ps c 0).1

theorem annotF_erase (ps : List Nat) : ∀ (c : Code) (n : Nat), (annotF ps c n).1.erase = c ∧ (annotF ps c n).1.Good
  | .seq x y, n => by
    have h1 := annotF_erase ps x n
    have h2 := annotF_erase ps y (annotF ps x n).2
    simp only [annotF, AC.erase, AC.Good]
    exact ⟨by rw [h1.1, h2.1], h1.2, h2.2⟩
  | .cond o y z, n => by
    have h1 := annotF_erase ps y n
    have h2 := annotF_erase ps z (annotF ps y n).2
    simp only [annotF, AC.erase, AC.Good]
    exact ⟨by rw [h1.1, h2.1], h1.2, h2.2⟩
  | .block id b, n => by
    have h1 := annotF_erase ps b n
    simp only [annotF, AC.erase, AC.Good]
    exact ⟨by rw [h1.1], h1.2⟩
  | .loop b, n => by
    have h1 := annotF_erase ps b (n + 1)
    simp only [annotF]
    split
    · exact ⟨rfl, trivial⟩
    · split
      · exact ⟨rfl, h1.1, h1.2⟩
      · exact ⟨rfl, trivial⟩
  | .skip, _ | .region _ _ _, _ | .rangeFunc _ _ _ _, _ | .exit _, _ | .scope _, _ | .label _, _ | .goto _, _ | .ret, _ | .refuse _, _ => ⟨rfl, trivial⟩

/-- Is it a loop of this code? -/
def AC.HasLoop (k : Nat) (b : Code) : AC → Prop
  | .plain _ => False
  | .seq x y => x.HasLoop k b ∨ y.HasLoop k b
  | .cond _ y z => y.HasLoop k b ∨ z.HasLoop k b
  | .block _ x => x.HasLoop k b
  | .loop k' b' => k' = k ∧ b' = b
  | .peel x k' b' => (k' = k ∧ b' = b) ∨ x.HasLoop k b

abbrev LoopStep := Nat → AAct → ASt → Option (AExit × AAct × ASt)

def acRun [NodesOf] (ls : LoopStep) (run : Code → AAct → ASt → Option (AExit × AAct × ASt)) : AC → AAct → ASt → Option (AExit × AAct × ASt)
  | .plain c, a, σ => run c a σ
  | .seq x y, a, σ => match acRun ls run x a σ with
    | some (.normal, a', σ') => acRun ls run y a' σ'
    | r => r
  | .cond o y z, a, σ => match dB (a.eval o) with
    | some (.b t) => if t then acRun ls run y a σ else acRun ls run z a σ
    | _ => none
  | .block id b, a, σ => match acRun ls run b a σ with
    | some (.exit id', a', σ') => if id' = id then some (.normal, a', σ') else some (.exit id', a', σ')
    | r => r
  | .loop k _, a, σ => ls k a σ
  | .peel x k _, a, σ => match acRun ls run x a σ with
    | some (.normal, a', σ') => ls k a' σ'
    | r => r

theorem acRun_ok [TabsOf] {ls : LoopStep} {run : Code → AAct → ASt → Option (AExit × AAct × ASt)} (hr : RunOk P run) : ∀ (ac : AC), ac.Good → (∀ k b, ac.HasLoop k b → ∀ a σ e a' σ', ls k a σ = some (e, a', σ') → ∀ Q : AExit → AAct → ASt → Prop, Q e a' σ' → ATL P b a σ Q) →
    ∀ (a : AAct) (σ : ASt) (e : AExit) (a' : AAct) (σ' : ASt), acRun ls run ac a σ = some (e, a', σ') → ∀ Q : AExit → AAct → ASt → Prop, Q e a' σ' → AT P ac.erase a σ Q := by
  intro ac
  induction ac with
  | plain c => intro hg hl a σ e a' σ' h Q hq; exact AT.run hr h hq
  | loop k b => intro hg hl a σ e a' σ' h Q hq; exact (hl k b ⟨rfl, rfl⟩ a σ e a' σ' h Q hq).at
  | peel x k b ih =>
    intro hg hl a σ e a' σ' h Q hq
    simp only [acRun] at h
    refine ATL.at (ATL.step ?_)
    obtain ⟨rfl, hg⟩ := hg
    split at h
    · next a1 σ1 h1 =>
      exact ih hg (fun k' b' hk => hl k' b' (.inr hk)) a σ _ a1 σ1 h1 (loopQ P x.erase Q) (hl k _ (.inl ⟨rfl, rfl⟩) a1 σ1 e a' σ' h Q hq)
    · next hne =>
      refine ih hg (fun k' b' hk => hl k' b' (.inr hk)) a σ e a' σ' h (loopQ P x.erase Q) ?_
      cases e with
      | normal => exact absurd h (by intro e'; exact hne _ _ e')
      | exit id => exact hq
      | ret => exact hq
  | seq x y ihx ihy =>
    intro hg hl a σ e a' σ' h Q hq
    simp only [acRun] at h
    split at h
    · next a1 σ1 h1 =>
      exact AT.seq (ihx hg.1 (fun k b hk => hl k b (.inl hk)) a σ _ a1 σ1 h1 (seqQ P y.erase Q) (ihy hg.2 (fun k b hk => hl k b (.inr hk)) a1 σ1 e a' σ' h Q hq))
    · next hne =>
      refine AT.seq (ihx hg.1 (fun k b hk => hl k b (.inl hk)) a σ e a' σ' h (seqQ P y.erase Q) ?_)
      cases e with
      | normal => exact absurd h (by intro e'; exact hne _ _ e')
      | exit id => exact hq
      | ret => exact hq
  | cond o y z ihy ihz =>
    intro hg hl a σ e a' σ' h Q hq
    simp only [acRun] at h
    split at h
    · next t ho =>
      refine AT.cond ho ?_
      cases t with
      | true => exact ihy hg.1 (fun k b hk => hl k b (.inl hk)) a σ e a' σ' h Q hq
      | false => exact ihz hg.2 (fun k b hk => hl k b (.inr hk)) a σ e a' σ' h Q hq
    · cases h
  | block id b ih =>
    intro hg hl a σ e a' σ' h Q hq
    simp only [acRun] at h
    split at h
    · next id' a1 σ1 h1 =>
      split at h
      · next e1 =>
        cases h
        exact AT.block (ih hg (fun k b hk => hl k b hk) a σ _ _ _ h1 (blockQ id Q) (by simp only [blockQ]; rw [if_pos e1]; exact hq))
      · next e1 =>
        cases h
        exact AT.block (ih hg (fun k b hk => hl k b hk) a σ _ _ _ h1 (blockQ id Q) (by simp only [blockQ]; rw [if_neg e1]; exact hq))
    · next hne =>
      refine AT.block (ih hg (fun k b hk => hl k b hk) a σ e a' σ' h (blockQ id Q) ?_)
      cases e with
      | normal => exact hq
      | exit id' => exact absurd h (by intro e'; exact hne _ _ _ e')
      | ret => exact hq
end
end Go.Abs

/-! # AbsPiece -/
namespace Go.Abs
noncomputable section
set_option linter.unusedSectionVars false
set_option linter.unusedVariables false
set_option linter.unusedSimpArgs false
variable {P : Program}

/-! ### Calls -/
def tupV : List Value → Value
  | [v] => v
  | l => .tuple ⟨l⟩

/-- The frozen blocks stand in the world, the tables among them. -/
structure RoOk (tabs : List (Nat × List AV)) (ro : Nat → Option Obj) (w : World) : Prop where
  at' : ∀ b o, ro b = some o → w.heap[b]? = some o
  tab : ∀ p ∈ tabs, ∃ cs elem fr, ro p.1 = some (.cells cs elem fr) ∧ p.2.length ≤ cs.size ∧ TabC p.2 cs

/-- What frozen blocks become behind a call that changes nothing. -/
structure RoStep (ro ro' : Nat → Option Obj) (w w' : World) : Prop where
  kept : Kept w w'
  le : ∀ b o, ro b = some o → ro' b = some o
  new : ∀ b, ro' b ≠ none → ro b ≠ none ∨ w.heap.size ≤ b
  at' : ∀ b o, ro' b = some o → w'.heap[b]? = some o

/-- Arguments, some of which are plain functions that are told beforehand. -/
def putS : List (Option FuncId) → List Value → List Value
  | none :: st, v :: vs => v :: putS st vs
  | none :: _, [] => []
  | some g :: st, vs => .func (.func g) ⟨[]⟩ ⟨[]⟩ :: putS st vs
  | [], vs => vs
def putA : List (Option FuncId) → List AV → List AV
  | none :: st, v :: vs => v :: putA st vs
  | none :: _, [] => []
  | some g :: st, vs => .fn g [] [] :: putA st vs
  | [], vs => vs
def takeS : List (Option FuncId) → List AV → Option (List AV)
  | [], l => some l
  | none :: st, a :: l => (takeS st l).map (a :: ·)
  | some g :: st, .fn g' [] [] :: l => if g' = g then takeS st l else none
  | _, _ => none

/-- Called with these values, the function hands back those, and changes nothing that stood. -/
def PureC (P : Program) (tabs : List (Nat × List AV)) (f : FuncId) (st : List (Option FuncId)) (gs out : List GV) : Prop := ∀ ro w vs, RoOk tabs ro w → GRs ro gs vs → CallN P f ⟨putS st vs⟩ w fun v w' => ∃ ro', RoStep ro ro' w w' ∧ ∃ us, v = tupV us ∧ GRs ro' out us

section
variable [TabsOf]
theorem takeS_ok {η : Env} : ∀ {st : List (Option FuncId)} {l r : List AV} {vs : List Value}, takeS st l = some r → VRs η l vs → ∃ vs', vs = putS st vs' ∧ VRs η r vs'
  | [], l, r, vs, h, hv => by
    simp only [takeS, Option.some.injEq] at h; subst h
    exact ⟨vs, rfl, hv⟩
  | none :: st, [], r, vs, h, hv => by simp [takeS] at h
  | none :: st, a :: l, r, vs, h, hv => by
    simp only [takeS, Option.map_eq_some_iff] at h
    obtain ⟨r', h1, rfl⟩ := h
    obtain ⟨x, xs, rfl, hx, hxs⟩ := hv
    obtain ⟨vs', rfl, h2⟩ := takeS_ok h1 hxs
    exact ⟨x :: vs', rfl, VRs.cons hx h2⟩
  | some g :: st, [], r, vs, h, hv => by simp [takeS] at h
  | some g :: st, a :: l, r, vs, h, hv => by
    unfold takeS at h
    split at h
    · next e => cases e
    · next e _ => cases e
    · next g0 st0 g' l0 e1 e2 =>
      cases e1; cases e2
      split at h
      · next e =>
        subst e
        obtain ⟨x, xs, rfl, hx, hxs⟩ := hv
        obtain ⟨vs', rfl, h2⟩ := takeS_ok h hxs
        simp only [VR] at hx
        obtain ⟨us, ws, rfl, h3, h4⟩ := hx
        simp only [VRs] at h3 h4
        subst h3; subst h4
        exact ⟨vs', rfl, h2⟩
      · cases h
    · cases h
theorem putA_ok {η : Env} : ∀ {st : List (Option FuncId)} {l : List AV} {vs : List Value}, VRs η l vs → VRs η (putA st l) (putS st vs)
  | [], l, vs, hv => hv
  | none :: st, [], vs, hv => by simp only [VRs] at hv; subst hv; simp [putA, putS, VRs]
  | none :: st, a :: l, vs, hv => by
    obtain ⟨x, xs, rfl, hx, hxs⟩ := hv
    exact VRs.cons hx (putA_ok hxs)
  | some g :: st, l, vs, hv => VRs.cons (by simp only [VR]; exact ⟨[], [], rfl, by simp [VRs], by simp [VRs]⟩) (putA_ok hv)
theorem SR.roOk {η : Env} {σ : ASt} {w : World} (h : SR P η σ w) : RoOk TabsOf.tabs η.ro w := ⟨h.roAt, h.tabs⟩

theorem St.ofRo {η : Env} {σ : ASt} {w w' : World} {ro' : Nat → Option Obj} (h : SR P η σ w) (k : RoStep η.ro ro' w w') : St P η σ w ⟨η.pl, ro', η.gh⟩ σ w' := by
  have hle : (η : Env).le ⟨η.pl, ro', η.gh⟩ := ⟨fun _ _ h => h, k.le, fun _ h => h⟩
  refine ⟨hle, ⟨h.glob, h.dom, fun id o ho => ?_, h.ghd, h.sep, k.at', fun id o q a1 a2 a3 => ?_, fun p hp => (h.tabs p hp).mono hle⟩, k.kept.size, fun bl hb _ => k.kept.keep bl hb, fun id o q h1 h2 h3 h4 => .inr ⟨id, o, q, h1, h2, h3, h4, rfl⟩, k.kept.os, k.kept.tape, k.kept.output, rfl, Nat.le_refl _, fun _ h => .inl h, fun b hb => ?_⟩
  · exact ((h.live id o ho).heap fun q _ hr => k.kept.keep _ hr.lt).mono hle
  · have hr := h.at a1 (show η id = some q from a3)
    cases hro : ro' q.bl with
    | none => exact hro
    | some o2 =>
      rcases k.new q.bl (by rw [hro]; simp) with h1 | h1
      · exact absurd (h.roSep id o q a1 a2 a3) h1
      · have := hr.lt; omega
  · rcases k.new b hb with h1 | h1
    · exact .inl h1
    · exact .inr (.inl h1)
end
end
end Go.Abs

/-! # AbsMatch -/
namespace Go.Abs
noncomputable section
set_option linter.unusedSectionVars false
set_option linter.unusedVariables false
set_option linter.unusedSimpArgs false
variable {P : Program}

/-- The nodes are a list's places. -/
@[reducible] def Tg (tabs : List (Nat × List AV)) (gs : List GV) (ka : Nat) : TabsOf := { nodes := [], dec := [], ka := ka, tabs := tabs, I := fun _ _ => none, val := fun n => gs[n]?, nodeOk := by intro n nd h; simp at h, decOk := by intro n b h; simp at h }

def ofL {α : Type} : List (Nat × α) → Tr α
  | [] => .nil
  | (k, v) :: l => (ofL l).set k (some v)
theorem ofL_mem {α : Type} : ∀ {l : List (Nat × α)} {k : Nat} {v : α}, (ofL l).get k = some v → (k, v) ∈ l
  | [], k, v, h => by simp [ofL] at h
  | (j, u) :: l, k, v, h => by
    rw [ofL, Tr.get_set] at h
    split at h
    · next e => cases h; subst e; simp
    · exact List.mem_cons_of_mem _ (ofL_mem h)

structure Shp where
  np : Nat
  n : Nat
  gn : Nat
  next : Nat
  slots : List (Nat × AV)
  objs : List (Nat × AObj)
  ka : Nat := 0
  al : List (Option Nat) := []   -- of an end: which of its parameters are parameters of the start

def tabObjs (tabs : List (Nat × List AV)) : List (Nat × AObj) := tabs.map fun p => (p.1, .cells p.2 0 false false)
def Shp.act (s : Shp) : AAct := ⟨ofL s.slots, s.n, s.gn⟩
def Shp.st (tabs : List (Nat × List AV)) (s : Shp) : ASt := ⟨ofL (s.objs ++ tabObjs tabs), s.next, 0⟩

def StateIs (P : Program) (tabs : List (Nat × List AV)) (s : Shp) (gs : List GV) (w0 : Base) (ro0 : Nat → Option Obj) (A : Act) (w : World) : Prop := ∃ η, @Fresh (Tg tabs gs s.ka) P w0 ro0 η (s.st tabs) w ∧ @TR (Tg tabs gs s.ka) P η s.act A

def getA {α : Type} (k : Nat) : List (Nat × α) → Option α
  | [] => none
  | p :: l => bif Nat.beq k p.1 then some p.2 else getA k l
theorem getA_mem {α : Type} {k : Nat} {v : α} : ∀ {l : List (Nat × α)}, getA k l = some v → (k, v) ∈ l
  | [], h => by simp [getA] at h
  | p :: l, h => by
    simp only [getA] at h
    cases hb : Nat.beq k p.1 with
    | true => rw [hb] at h; simp only [cond_true, Option.some.injEq] at h; rw [Nat.eq_of_beq_eq_true hb, ← h]; simp
    | false => rw [hb] at h; simp only [cond_false] at h; exact List.mem_cons_of_mem _ (getA_mem h)

def rIs (r : List (Nat × Option Nat)) (i : Nat) (x : Option Nat) : Bool :=
  match getA i r, x with
  | some (some a), some b => Nat.beq a b
  | some none, none => true
  | _, _ => false

section
variable [NodesOf]
def nilNode (m : Nat) : Bool := match NodesOf.nodes[m]? with
  | some (.ml []) => true
  | _ => false

def frzOk (P : Program) (σ : ASt) (fz : List Nat) (a : AV) (m : Nat) : Bool :=
  match a with
  | .sv id n => fz.contains id && match σ.get id with
    | some (.vec m' _ _) => Nat.beq m' m && sameLen 100 m' n
    | _ => false
  | .sl id off len cap => fz.contains id && match σ.get id with
    | some (.cells c et true opn) => (match listOf P σ et (.sl id off len cap), sizeT P et with
      | some m', some size => Nat.beq m' m && Nat.blt 0 size
      | _, _ => false)
    | _ => false
  | _ => false

def capEq : Option Nat → Option Nat → Bool
  | none, none => true
  | some a, some b => Nat.beq a b
  | _, _ => false

mutual
def mV (P : Program) (G : Nat) (σ : ASt) (fz : List Nat) (r : List (Nat × Option Nat)) (ps : List Nat) : AV → AV → Bool
  | .nd j, a => match ps[j]? with
    | some m => (match nodeOf a with
      | some m' => Nat.beq m m'
      | none => false) || frzOk P σ fz a m
    | none => false
  | .sv i j, a => match ps[j]? with
    | some m => match a with
      | .sv id n => Nat.blt G i && rIs r i (some id) && sameLen 100 m n
      | .nils => Nat.blt G i && rIs r i none && nilNode m
      | _ => false
    | none => false
  | .p i off, a => match a with
    | .p id off' => Nat.beq off off' && (if i ≤ G then Nat.beq i id else rIs r i (some id))
    | _ => false
  | .rx j off, a => match a with
    | .rx m off' => Nat.beq off off' && (match ps[j]? with | some m' => Nat.beq m m' | none => false)
    | _ => false
  | .fn f fi cs, a => match a with
    | .fn f' fi' cs' => Nat.beq f f' && mVs P G σ fz r ps fi fi' && mVs P G σ fz r ps cs cs'
    | _ => false
  | .agg l, a => match a with
    | .agg l' => mVs P G σ fz r ps l l'
    | _ => false
  | .tup l, a => match a with
    | .tup l' => mVs P G σ fz r ps l l'
    | _ => false
  | .ifc t x, a => match a with
    | .ifc t' x' => Nat.beq t t' && mV P G σ fz r ps x x'
    | _ => false
  | .b x, a => match a with | .b y => (bif x then y else !y) | _ => false
  | .i k n, a => match a with | .i k' n' => Nat.beq (kc k) (kc k') && intEq n n' | _ => false
  | .s x, a => match a with | .s y => bytesEq x y | _ => false
  | .nilp, a => match a with | .nilp => true | _ => false
  | .nils, a => match a with | .nils => true | _ => false
  | .nilf, a => match a with | .nilf => true | _ => false
  | .nili, a => match a with | .nili => true | _ => false
  | .nilm, a => match a with | .nilm => true | _ => false
  | .mp i, a => match a with
    | .mp id => Nat.blt G i && rIs r i (some id)
    | _ => false
  | .sl i off len cap, a => match a with
    | .sl id off' len' cap' => Nat.blt G i && rIs r i (some id) && (Nat.beq off off' && (Nat.beq len len' && capEq cap cap'))
    | _ => false
  | _, _ => false
def mVs (P : Program) (G : Nat) (σ : ASt) (fz : List Nat) (r : List (Nat × Option Nat)) (ps : List Nat) : List AV → List AV → Bool
  | [], l => match l with | [] => true | _ => false
  | a :: l, m => match m with
    | b :: m' => mV P G σ fz r ps a b && mVs P G σ fz r ps l m'
    | [] => false
end

def mO (P : Program) (G : Nat) (σ : ASt) (fz : List Nat) (r : List (Nat × Option Nat)) (ps : List Nat) (i : Nat) (o : AObj) : Bool :=
  match getA i r with
  | some (some id) => !(fz.contains id) && match o with
    | .cells l et rw_ opn => match σ.get id with
      | some (.cells c et' rw' opn') => Nat.beq et et' && (bif rw_ then rw' else !rw') && (bif opn then opn' else !opn') && mVs P G σ fz r ps l c
      | _ => false
    | .vec j et f => match σ.get id with
      | some (.vec m et' f') => Nat.beq et et' && (!f || f') && (match ps[j]? with | some m' => Nat.beq m m' | none => false)
      | _ => false
    | .smap j kk sz => match σ.get id with
      | some (.smap m kk' sz') => kkEq kk kk' && szEq sz sz' && (match ps[j]? with | some m' => Nat.beq m m' | none => false)
      | some (.map []) => (match ps[j]? with | some m => nilNode m | none => false)
      | _ => false
    | .map [] => (match σ.get id with
      | some (.map []) => true
      | _ => false)
    | _ => false
  | some none => match o with
    | .vec j _ _ => (match ps[j]? with | some m => nilNode m | none => false)
    | _ => false
  | none => false

def mSlots (P : Program) (G : Nat) (σ : ASt) (fz : List Nat) (r : List (Nat × Option Nat)) (ps : List Nat) (t : Tr AV) : List (Nat × AV) → Bool
  | [] => true
  | p :: l => (match t.get p.1 with | some v => mV P G σ fz r ps p.2 v | none => false) && mSlots P G σ fz r ps t l
def mObjs (P : Program) (G next : Nat) (σ : ASt) (fz : List Nat) (r : List (Nat × Option Nat)) (ps : List Nat) : List (Nat × AObj) → Bool
  | [] => true
  | p :: l => Nat.blt G p.1 && Nat.blt p.1 next && mO P G σ fz r ps p.1 p.2 && mObjs P G next σ fz r ps l
/-- Some blocks keep their names. -/
def anchR (r : List (Nat × Option Nat)) : Nat → Nat → Bool
  | _, 0 => true
  | i, n + 1 => rIs r (i + 1) (some (i + 1)) && anchR r (i + 1) n
/-- Different names are different blocks. -/
def rInj : List (Nat × Option Nat) → Bool
  | [] => true
  | p :: l => (match p.2 with
    | some a => l.all fun q => match q.2 with | some b => !(Nat.beq a b) | none => true
    | none => true) && rInj l

def mAll (P : Program) (s : Shp) (a : AAct) (σ : ASt) (fz : List Nat) (r : List (Nat × Option Nat)) (ps : List Nat) : Bool :=
  Nat.beq s.ka NodesOf.ka && Nat.blt (s.gn + s.ka) s.next && anchR r s.gn s.ka && Nat.beq s.n a.n && Nat.beq s.gn a.gn && Nat.blt s.gn s.next && rInj r && mSlots P s.gn σ fz r ps a.t s.slots && mObjs P s.gn s.next σ fz r ps s.objs
end

def kills (σ : ASt) : List Nat → ASt
  | [] => σ
  | id :: l => (kills σ l).kill id
theorem kills_get {σ : ASt} {k : Nat} : ∀ {l : List Nat}, (kills σ l).get k = if k ∈ l then none else σ.get k
  | [] => by simp [kills]
  | id :: l => by
    rw [kills, ASt.get_kill, kills_get]
    by_cases h : k = id
    · simp [h]
    · simp [h]
theorem kills_lock {σ : ASt} : ∀ l : List Nat, (kills σ l).lock = σ.lock
  | [] => rfl
  | _ :: l => kills_lock l
theorem kills_next {σ : ASt} : ∀ l : List Nat, (kills σ l).next = σ.next
  | [] => rfl
  | _ :: l => kills_next l

section
variable [TabsOf]
theorem freezeAll {w0 : Base} {ro0 : Nat → Option Obj} {η : Env} {σ : ASt} {w : World} (hF : Fresh P w0 ro0 η σ w) (hl : σ.lock = 0) : ∀ fz : List Nat, ∃ ro1, (∀ b o, η.ro b = some o → ro1 b = some o) ∧ Fresh P w0 ro0 ⟨η.pl, ro1, η.gh⟩ (kills σ fz) w ∧
    (∀ id ∈ fz, ∀ o q, σ.get id = some o → o.own = true → η id = some q → ro1 q.bl = w.heap[q.bl]?)
  | [] => ⟨η.ro, fun _ _ h => h, hF, by simp⟩
  | id :: fz => by
    obtain ⟨ro1, h1, h2, h3⟩ := freezeAll hF hl fz
    by_cases hx : ∃ o q, (kills σ fz).get id = some o ∧ o.own = true ∧ η id = some q
    · obtain ⟨o, q, ho, hown, hq⟩ := hx
      have hst := St.freeze h2.rel ho hown (by rw [kills_lock, hl]; exact Nat.zero_le _) (show (⟨η.pl, ro1, η.gh⟩ : Env) id = some q from hq)
      have hF2 := h2.step (by rw [kills_lock, hl]) hst
      refine ⟨roAdd ro1 w q.bl, fun b o hb => roAdd_le h2.rel.roAt q.bl b o (h1 b o hb), hF2, ?_⟩
      intro id' hid' o' q' ho' hown' hq'
      show (if q'.bl = q.bl then w.heap[q.bl]? else ro1 q'.bl) = _
      split
      · next e => rw [e]
      · next e =>
        rcases List.mem_cons.1 hid' with rfl | hid'
        · rw [hq] at hq'; cases hq'; exact absurd rfl e
        · exact h3 id' hid' o' q' ho' hown' hq'
    · refine ⟨ro1, h1, ⟨h2.rel.sub (fun k u hk => ?_) (Nat.le_refl _), h2.kept, fun k u q a1 a2 a3 => ?_, h2.roLe, h2.roNew, h2.anc⟩, ?_⟩
      · rw [kills, ASt.get_kill] at hk; split at hk; cases hk; exact hk
      · rw [kills, ASt.get_kill] at a1; split at a1; cases a1; exact h2.own k u q a1 a2 a3
      · intro id' hid' o' q' ho' hown' hq'
        rcases List.mem_cons.1 hid' with rfl | hid'
        · by_cases hm : id' ∈ fz
          · exact h3 id' hm o' q' ho' hown' hq'
          · exact absurd ⟨o', q', by rw [kills_get, if_neg hm]; exact ho', hown', hq'⟩ hx
        · exact h3 id' hid' o' q' ho' hown' hq'
end

theorem valsOf_at {val : Nat → Option GV} : ∀ {ps : List Nat} {gs : List GV}, valsOf val ps = some gs → ∀ {j m : Nat}, ps[j]? = some m → gs[j]? = val m ∧ ∃ g, val m = some g
  | [], gs, h, j, m, hj => by simp at hj
  | p :: ps, gs, h, j, m, hj => by
    simp only [valsOf] at h
    split at h
    · next g r h1 h2 =>
      cases h
      cases j with
      | zero => simp at hj; subst hj; exact ⟨by simp [h1], g, h1⟩
      | succ j => simpa using valsOf_at h2 (j := j) (by simpa using hj)
    · cases h

theorem rIs_some {r : List (Nat × Option Nat)} {i id : Nat} (h : rIs r i (some id) = true) : getA i r = some (some id) := by
  unfold rIs at h
  split at h
  · next a b e1 e2 => cases e2; rw [e1, Nat.eq_of_beq_eq_true h]
  · next e1 e2 => cases e2
  · cases h
theorem rIs_none {r : List (Nat × Option Nat)} {i : Nat} (h : rIs r i none = true) : getA i r = some none := by
  unfold rIs at h
  split at h
  · next a b e1 e2 => cases e2
  · next e1 e2 => exact e1
  · cases h

def tabSz (tabs : List (Nat × List AV)) (i : Nat) : Nat := match getA i tabs with
  | some c => c.length
  | none => 0
/-- The places of a shape's blocks. -/
def mEnv (tabs : List (Nat × List AV)) (G next : Nat) (r : List (Nat × Option Nat)) (η : Env) (ro1 : Nat → Option Obj) : Env where
  pl := fun i => if i ≤ G then some ⟨i, 0, tabSz tabs i, 0⟩ else if i < next then match getA i r with
    | some (some id) => η id
    | _ => none
    else none
  ro := ro1
  gh := fun i => decide (G < i) && decide (i < next) && match getA i r with
    | some (some id) => η.gh id
    | some none => true
    | none => false
end
end Go.Abs

/-! # AbsMatch2 -/
namespace Go.Abs
noncomputable section
set_option linter.unusedSectionVars false
set_option linter.unusedVariables false
set_option linter.unusedSimpArgs false
variable {P : Program}

/-- What is at hand when a state is matched. -/
structure MCtx (T : TabsOf) (P : Program) (tabs : List (Nat × List AV)) (G next : Nat) (η : Env) (σ : ASt) (w : World) (fz : List Nat) (r : List (Nat × Option Nat)) (ps : List Nat) (gs : List GV) (ro1 : Nat → Option Obj) : Prop where
  rel : @SR T P η σ w
  vals : valsOf T.val ps = some gs
  roLe : ∀ b o, η.ro b = some o → ro1 b = some o
  frz : ∀ id ∈ fz, ∀ o q, σ.get id = some o → o.own = true → η id = some q → ro1 q.bl = w.heap[q.bl]?
  gn : G = P.globals.size
  lt : G < next

variable {T : TabsOf} {ka : Nat} {tabs : List (Nat × List AV)} {G next : Nat} {η : Env} {σ : ASt} {w : World} {fz : List Nat} {r : List (Nat × Option Nat)} {ps : List Nat} {gs : List GV} {ro1 : Nat → Option Obj}

theorem mEnv_at {i id : Nat} (hG : G < i) (hn : i < next) (hr : getA i r = some (some id)) : (mEnv tabs G next r η ro1) i = η id := by
  show (if i ≤ G then some (⟨i, 0, tabSz tabs i, 0⟩ : Place) else if i < next then _ else none) = _
  rw [if_neg (by omega), if_pos hn, hr]
theorem mEnv_low {i : Nat} (hG : i ≤ G) : (mEnv tabs G next r η ro1) i = some ⟨i, 0, tabSz tabs i, 0⟩ := by
  show (if i ≤ G then some (⟨i, 0, tabSz tabs i, 0⟩ : Place) else _) = _
  rw [if_pos hG]
theorem mEnv_gh {i id : Nat} (hG : G < i) (hn : i < next) (hr : getA i r = some (some id)) : (mEnv tabs G next r η ro1).gh i = η.gh id := by
  show (decide (G < i) && decide (i < next) && _) = _
  rw [hr]; simp [hG, hn]
theorem mEnv_gh0 {i : Nat} (hG : G < i) (hn : i < next) (hr : getA i r = some none) : (mEnv tabs G next r η ro1).gh i = true := by
  show (decide (G < i) && decide (i < next) && _) = _
  rw [hr]; simp [hG, hn]

/-- What is frozen, as a ground value. -/
theorem frzOk_ok (C : MCtx T P tabs G next η σ w fz r ps gs ro1) {a : AV} {m : Nat} {v : Value} (h : @frzOk T.toNodesOf P σ fz a m = true) (hv : @VR T η a v) {g : GV} (hm : T.val m = some g) : g.scalar = true ∧ GR ro1 g v := by
  letI := T
  unfold frzOk at h
  split at h
  · next id n =>
    rw [Bool.and_eq_true] at h
    obtain ⟨h1, h⟩ := h
    have hid : id ∈ fz := by simpa using h1
    split at h
    · next m' et f hg =>
      rw [Bool.and_eq_true] at h
      have e := Nat.eq_of_beq_eq_true h.1
      subst e
      simp only [VR] at hv
      obtain ⟨ys, k1, hv⟩ := hv
      rcases hv with ⟨q, hq, hle, rfl⟩ | ⟨hgh, rfl, rfl⟩
      · have hor := C.rel.at hg hq
        obtain ⟨xs, x1, x2, x3, x4, x5, x6, x7, x8⟩ := hor.ofVec
        have x1' : T.val m' = some (.l xs) := x1
        rw [hm] at x1'; cases x1'
        have hlen := sameLen_ok 100 h.2 x1 k1
        refine ⟨rfl, ?_⟩
        have hcl := cellsG_length x2
        have := GR.ofCells (ro' := ro1) (off := 0) (n := ys.length) (size := q.es) (cap := q.sz / q.es) (cs := cellsG xs) (gs := xs) x8 C.roLe (C.frz id hid _ q hg rfl hq) (by
          unfold takeN
          rw [List.drop_zero, ← hlen, List.take_of_length_le (by omega), if_pos hcl]) hlen hle x4 (fun x hx => ⟨x2 x hx, x7 x hx⟩) (fun η' vs hro hvs => by
            unfold cellsG at hvs ⊢
            exact (GRs_VRs _ _).1 (GRs.mono hro _ _ ((GRs_VRs _ _).2 hvs)))
        simpa using this
      · rcases C.rel.live id _ hg with ⟨q, hq, _⟩ | ⟨_, n2, et2, f2, e2, hv0⟩
        · rw [(C.rel.ghd id hgh).1] at hq; cases hq
        · cases e2
          have hv0' : T.val m' = some (.l []) := hv0
          rw [hm] at hv0'; cases hv0'
          exact ⟨rfl, by simp [GR]⟩
    · cases h
  · next id off len cap =>
    rw [Bool.and_eq_true] at h
    obtain ⟨h1, h⟩ := h
    have hid : id ∈ fz := by simpa using h1
    split at h
    · next c et opn hg =>
      split at h
      · next m' size hl hsz =>
        rw [Bool.and_eq_true] at h
        have e := Nat.eq_of_beq_eq_true h.1
        subst e
        have h0 : 0 < size := by have := h.2; rwa [Nat.blt_eq] at this
        simp only [VR] at hv
        obtain ⟨q, hq, hle, rfl⟩ := hv
        unfold listOf at hl
        simp only [hg, hsz] at hl
        split at hl
        · next c' et' rw' opn' size' agg e1 e2 ha =>
          cases e1; cases e2
          split at hl
          · next hc =>
            rw [Bool.and_eq_true, Bool.or_eq_true, Bool.and_eq_true] at hc
            split at hl
            · next cs hcs =>
              split at hl
              · next ns hns =>
                have hagg : agg = false → size = 1 := by
                  intro e; subst e
                  rcases hc.2 with h1 | h1
                  · simp at h1
                  · exact Nat.eq_of_beq_eq_true h1
                obtain ⟨g', g1, g2⟩ := findNd_ok hl
                have g1' : T.val m' = some g' := g1
                rw [hm] at g1'; cases g1'
                have hor := C.rel.at hg hq
                obtain ⟨ws, elem, fr, hb, rr⟩ := hor
                have hlc := (takeN_some hcs).2.1
                have hvs0 := rr.takeVRs hcs
                obtain ⟨gl, k1, k2, k3, k4, hsize⟩ := elemsOf_ok (η := η) hagg len hns hvs0 hlc
                simp only [Nd.den, k1, Option.map_some, Option.some.injEq] at g2
                subst g2
                refine ⟨rfl, ?_⟩
                have := GR.ofCells (ro' := ro1) (off := off) (n := len) (size := size) (cap := cap.getD ((q.sz - off) / q.es)) (cs := cs) (gs := gl) (C.rel.at hg hq) C.roLe (C.frz id hid _ q hg rfl hq) hcs k2 hle h0 hsize (fun η' vs hro hvs => by
                  obtain ⟨gl', k1', k2', k3', _⟩ := elemsOf_ok (η := η) hagg len hns hvs hlc
                  rw [k1] at k1'; cases k1'
                  unfold cellsG at k3' ⊢
                  exact (GRs_VRs _ _).1 (GRs.mono hro _ _ ((GRs_VRs _ _).2 k3')))
                exact this
              · cases hl
            · cases hl
          · cases hl
        · cases hl
      · cases h
    · cases h
  · cases h

theorem capEq_eq : ∀ {a b : Option Nat}, capEq a b = true → a = b
  | none, none, _ => rfl
  | some _, some _, h => congrArg some (Nat.eq_of_beq_eq_true h)
  | none, some _, h => by cases h
  | some _, none, h => by cases h
mutual
theorem mV_ok (C : MCtx T P tabs G next η σ w fz r ps gs ro1) : ∀ (p a : AV) (v : Value), p.under next = true → @mV T.toNodesOf P G σ fz r ps p a = true → @VR T η a v → @VR (Tg tabs gs ka) (mEnv tabs G next r η ro1) p v
  | .nd j, a, v, hu, h, hv => by
    letI := T
    simp only [mV] at h
    split at h
    · next m hm =>
      obtain ⟨e1, g, e2⟩ := valsOf_at C.vals hm
      simp only [VR]
      refine ⟨g, by show gs[j]? = _; rw [e1, e2], ?_⟩
      rw [Bool.or_eq_true] at h
      rcases h with h | h
      · split at h
        · next m' hm' =>
          have e := Nat.eq_of_beq_eq_true h
          subst e
          obtain ⟨g', k1, k2, k3⟩ := nodeOf_ok hm' hv
          have k1' : T.val m = some g' := k1
          rw [e2] at k1'; cases k1'
          exact ⟨k2, GR.mono C.roLe _ _ k3⟩
        · cases h
      · exact frzOk_ok C h hv e2
    · cases h
  | .sv i j, a, v, hu, h, hv => by
    letI := T
    simp only [AV.under, Nat.blt_eq] at hu
    simp only [mV] at h
    split at h
    · next m hm =>
      obtain ⟨e1, g, e2⟩ := valsOf_at C.vals hm
      split at h
      · next id n =>
        rw [Bool.and_eq_true, Bool.and_eq_true, Nat.blt_eq] at h
        obtain ⟨⟨h1, h2⟩, h3⟩ := h
        have hr := rIs_some h2
        simp only [VR] at hv ⊢
        obtain ⟨xs, k1, hv⟩ := hv
        have hx : ∃ ys, g = .l ys ∧ ys.length = xs.length := by
          obtain ⟨ys, rfl⟩ := sameLen_list 100 h3 e2 k1
          exact ⟨ys, rfl, sameLen_ok 100 h3 e2 k1⟩
        obtain ⟨ys, rfl, hlen⟩ := hx
        refine ⟨ys, by show gs[j]? = _; rw [e1, e2], ?_⟩
        rcases hv with ⟨q, hq, hle, rfl⟩ | ⟨hgh, rfl, rfl⟩
        · exact .inl ⟨q, by rw [mEnv_at h1 hu hr]; exact hq, by rw [hlen]; exact hle, by rw [hlen]⟩
        · exact .inr ⟨by rw [mEnv_gh h1 hu hr]; exact hgh, List.eq_nil_of_length_eq_zero (by simpa using hlen), rfl⟩
      · rw [Bool.and_eq_true, Bool.and_eq_true, Nat.blt_eq] at h
        obtain ⟨⟨h1, h2⟩, h3⟩ := h
        have hr := rIs_none h2
        simp only [VR] at hv ⊢
        unfold nilNode at h3
        split at h3
        · next hn =>
          obtain ⟨g', k1, k2⟩ := T.nodeOk m _ hn (by simp)
          rw [e2] at k1; cases k1
          simp only [Nd.den, valsOf, Option.map_some, Option.some.injEq] at k2
          subst k2
          exact ⟨[], by show gs[j]? = _; rw [e1, e2], .inr ⟨mEnv_gh0 h1 hu hr, rfl, hv⟩⟩
        · cases h3
      · cases h
    · cases h
  | .p i off, a, v, hu, h, hv => by
    letI := T
    simp only [AV.under, Nat.blt_eq] at hu
    simp only [mV] at h
    split at h
    · next id off' =>
      rw [Bool.and_eq_true] at h
      have e := Nat.eq_of_beq_eq_true h.1
      subst e
      simp only [VR] at hv ⊢
      obtain ⟨q, hq, rfl⟩ := hv
      split at h
      · next hle =>
        have e := Nat.eq_of_beq_eq_true h.2
        subst e
        obtain ⟨sz, es, hg⟩ := C.rel.glob i (by rw [← C.gn]; exact hle)
        rw [hq] at hg; cases hg
        exact ⟨_, mEnv_low hle, rfl⟩
      · next hle => exact ⟨q, by rw [mEnv_at (by omega) hu (rIs_some h.2)]; exact hq, rfl⟩
    · cases h
  | .rx j off, a, v, hu, h, hv => by
    letI := T
    simp only [mV] at h
    split at h
    · next m off' =>
      rw [Bool.and_eq_true] at h
      have e := Nat.eq_of_beq_eq_true h.1
      subst e
      split at h
      · next m' hm =>
        have e := Nat.eq_of_beq_eq_true h.2
        subst e
        obtain ⟨e1, g, e2⟩ := valsOf_at C.vals hm
        simp only [VR] at hv ⊢
        obtain ⟨g', bl, base, cs, elem, fr, x, k1, k2, k3, k4, k5⟩ := hv
        have k1' : T.val m = some g' := k1
        rw [e2] at k1'; cases k1'
        exact ⟨g, bl, base, cs, elem, fr, x, by show gs[j]? = _; rw [e1, e2], C.roLe _ _ k2, GR.mono C.roLe _ _ k3, k4, k5⟩
      · simp at h
    · cases h
  | .fn f fi cs, a, v, hu, h, hv => by
    letI := T
    simp only [AV.under, Bool.and_eq_true] at hu
    simp only [mV] at h
    split at h
    · next f' fi' cs' =>
      rw [Bool.and_eq_true, Bool.and_eq_true] at h
      obtain ⟨⟨h1, h2⟩, h3⟩ := h
      have e := Nat.eq_of_beq_eq_true h1
      subst e
      simp only [VR] at hv ⊢
      obtain ⟨us, vs, rfl, k1, k2⟩ := hv
      exact ⟨us, vs, rfl, mVs_ok C fi fi' us hu.1 h2 k1, mVs_ok C cs cs' vs hu.2 h3 k2⟩
    · cases h
  | .agg l, a, v, hu, h, hv => by
    letI := T
    simp only [AV.under] at hu
    simp only [mV] at h
    split at h
    · next l' => simp only [VR] at hv ⊢; obtain ⟨vs, rfl, k1⟩ := hv; exact ⟨vs, rfl, mVs_ok C l l' vs hu h k1⟩
    · cases h
  | .tup l, a, v, hu, h, hv => by
    letI := T
    simp only [AV.under] at hu
    simp only [mV] at h
    split at h
    · next l' => simp only [VR] at hv ⊢; obtain ⟨vs, rfl, k1⟩ := hv; exact ⟨vs, rfl, mVs_ok C l l' vs hu h k1⟩
    · cases h
  | .ifc t x, a, v, hu, h, hv => by
    letI := T
    simp only [AV.under] at hu
    simp only [mV] at h
    split at h
    · next t' x' =>
      rw [Bool.and_eq_true] at h
      have e := Nat.eq_of_beq_eq_true h.1
      subst e
      simp only [VR] at hv ⊢; obtain ⟨y, rfl, k1⟩ := hv; exact ⟨y, rfl, mV_ok C x x' y hu h.2 k1⟩
    · cases h
  | .b x, a, v, hu, h, hv => by
    letI := T
    simp only [mV] at h
    split at h
    · next y => have := bif_iff.1 h; subst this; simp only [VR] at hv ⊢; exact hv
    · cases h
  | .i k n, a, v, hu, h, hv => by
    letI := T
    simp only [mV] at h
    split at h
    · next k' n' =>
      rw [Bool.and_eq_true] at h
      have e1 := kc_inj h.1
      have e2 := intEq_eq h.2
      subst e1; subst e2
      simp only [VR] at hv ⊢; exact hv
    · cases h
  | .s x, a, v, hu, h, hv => by
    letI := T
    simp only [mV] at h
    split at h
    · next y => have := bytesEq_eq h; subst this; simp only [VR] at hv ⊢; exact hv
    · cases h
  | .nilp, a, v, hu, h, hv => by letI := T; simp only [mV] at h; split at h; (simp only [VR] at hv ⊢; exact hv); cases h
  | .nils, a, v, hu, h, hv => by letI := T; simp only [mV] at h; split at h; (simp only [VR] at hv ⊢; exact hv); cases h
  | .nilf, a, v, hu, h, hv => by letI := T; simp only [mV] at h; split at h; (simp only [VR] at hv ⊢; exact hv); cases h
  | .nili, a, v, hu, h, hv => by letI := T; simp only [mV] at h; split at h; (simp only [VR] at hv ⊢; exact hv); cases h
  | .nilm, a, v, hu, h, hv => by letI := T; simp only [mV] at h; split at h; (simp only [VR] at hv ⊢; exact hv); cases h
  | .sl i off len cap, a, v, hu, h, hv => by
    letI := T
    simp only [AV.under, Nat.blt_eq] at hu
    simp only [mV] at h
    split at h
    · next id off' len' cap' =>
      simp only [Bool.and_eq_true, Nat.blt_eq] at h
      obtain ⟨⟨h1, h2⟩, h3, h4, h5⟩ := h
      have e1 := Nat.eq_of_beq_eq_true h3
      have e2 := Nat.eq_of_beq_eq_true h4
      have e3 := capEq_eq h5
      subst e1; subst e2; subst e3
      simp only [VR] at hv ⊢
      obtain ⟨q, hq, k1, rfl⟩ := hv
      exact ⟨q, by rw [mEnv_at h1 hu (rIs_some h2)]; exact hq, k1, rfl⟩
    · cases h
  | .mp i, a, v, hu, h, hv => by
    letI := T
    simp only [AV.under, Nat.blt_eq] at hu
    simp only [mV] at h
    split at h
    · next id =>
      rw [Bool.and_eq_true, Nat.blt_eq] at h
      simp only [VR] at hv ⊢
      obtain ⟨q, hq, rfl⟩ := hv
      exact ⟨q, by rw [mEnv_at h.1 hu (rIs_some h.2)]; exact hq, rfl⟩
    · cases h
  | .z _ _ _, _, _, _, h, _ => by simp [mV] at h
  | .ro _, _, _, _, h, _ => by simp [mV] at h
  | .rp _ _, _, _, _, h, _ => by simp [mV] at h
  | .pv _ _ _, _, _, _, h, _ => by simp [mV] at h
  | .pd _ _, _, _, _, h, _ => by simp [mV] at h
theorem mVs_ok (C : MCtx T P tabs G next η σ w fz r ps gs ro1) : ∀ (p a : List AV) (v : List Value), AV.unders next p = true → @mVs T.toNodesOf P G σ fz r ps p a = true → @VRs T η a v → @VRs (Tg tabs gs ka) (mEnv tabs G next r η ro1) p v
  | [], a, v, hu, h, hv => by
    letI := T
    simp only [mVs] at h
    split at h
    · simp only [VRs] at hv ⊢; exact hv
    · cases h
  | p :: l, a, v, hu, h, hv => by
    letI := T
    simp only [AV.unders, Bool.and_eq_true] at hu
    simp only [mVs] at h
    split at h
    · next b m' =>
      rw [Bool.and_eq_true] at h
      simp only [VRs] at hv ⊢
      obtain ⟨x, xs, rfl, k1, k2⟩ := hv
      exact ⟨x, xs, rfl, mV_ok C p b x hu.1 h.1 k1, mVs_ok C l m' xs hu.2 h.2 k2⟩
    · cases h
end

theorem mSlots_at {t : Tr AV} [NodesOf] : ∀ {l : List (Nat × AV)}, mSlots P G σ fz r ps t l = true → ∀ k p, (k, p) ∈ l → ∃ v, t.get k = some v ∧ mV P G σ fz r ps p v = true
  | [], _, k, p, hk => by simp at hk
  | q :: l, h, k, p, hk => by
    simp only [mSlots, Bool.and_eq_true] at h
    rcases List.mem_cons.1 hk with e | hk
    · subst e
      have h1 := h.1
      split at h1
      · next v hv => exact ⟨v, hv, h1⟩
      · cases h1
    · exact mSlots_at h.2 k p hk
theorem mObjs_at [NodesOf] : ∀ {l : List (Nat × AObj)}, mObjs P G next σ fz r ps l = true → ∀ i o, (i, o) ∈ l → G < i ∧ i < next ∧ mO P G σ fz r ps i o = true
  | [], _, i, o, hk => by simp at hk
  | q :: l, h, i, o, hk => by
    simp only [mObjs, Bool.and_eq_true, Nat.blt_eq] at h
    rcases List.mem_cons.1 hk with e | hk
    · subst e; exact ⟨h.1.1.1, h.1.1.2, h.1.2⟩
    · exact mObjs_at h.2 i o hk
theorem rInj_at : ∀ {r : List (Nat × Option Nat)}, rInj r = true → ∀ i j a, getA i r = some (some a) → getA j r = some (some a) → i = j
  | [], _, i, j, a, h1, _ => by simp [getA] at h1
  | p :: l, h, i, j, a, h1, h2 => by
    simp only [rInj, Bool.and_eq_true] at h
    simp only [getA] at h1 h2
    cases hb1 : Nat.beq i p.1 <;> cases hb2 : Nat.beq j p.1 <;> rw [hb1] at h1 <;> rw [hb2] at h2 <;> simp only [cond_true, cond_false, Option.some.injEq] at h1 h2
    · exact rInj_at h.2 i j a h1 h2
    · have hm := getA_mem h1
      have h3 := h.1
      rw [h2] at h3
      have := List.all_eq_true.1 h3 _ hm
      simp at this
    · have hm := getA_mem h2
      have h3 := h.1
      rw [h1] at h3
      have := List.all_eq_true.1 h3 _ hm
      simp at this
    · rw [Nat.eq_of_beq_eq_true hb1, Nat.eq_of_beq_eq_true hb2]

/-- What a shape's object is matched by. -/
theorem mO_ok (C : MCtx T P tabs G next η σ w fz r ps gs ro1) {i : Nat} {o : AObj} (hG : G < i) (hn : i < next) (hb : belowObj next o = true) (h : @mO T.toNodesOf P G σ fz r ps i o = true) :
    @Live (Tg tabs gs ka) P (mEnv tabs G next r η ro1) w i o ∧ (∀ id, getA i r = some (some id) → id ∉ fz ∧ ∃ o', σ.get id = some o' ∧ o'.own = o.own) := by
  letI := T
  unfold mO at h
  split at h
  · next id hr =>
    rw [Bool.and_eq_true] at h
    obtain ⟨h1, h⟩ := h
    have hnf : id ∉ fz := by intro hm; rw [List.contains_iff_mem.2 hm] at h1; simp at h1
    have hpl : (mEnv tabs G next r η ro1) i = η id := mEnv_at hG hn hr
    split at h
    · next l et rw_ opn =>
      split at h
      · next c et' rw' opn' hg =>
        rw [Bool.and_eq_true, Bool.and_eq_true, Bool.and_eq_true] at h
        obtain ⟨⟨⟨h2, h3⟩, h4⟩, h5⟩ := h
        have e1 := Nat.eq_of_beq_eq_true h2
        have e2 := bif_iff.1 h3
        have e3 := bif_iff.1 h4
        subst e1; subst e2; subst e3
        refine ⟨?_, fun id' hid' => by rw [hr] at hid'; cases hid'; exact ⟨hnf, _, hg, rfl⟩⟩
        obtain ⟨q, hq, cs, elem, fr, hb0, rr⟩ := C.rel.obj _ _ hg rfl
        refine .inl ⟨q, by rw [hpl]; exact hq, cs, elem, fr, hb0, ?_⟩
        have hvs : @VRs T η c ((cs.toList.drop q.ba).take c.length) := by
          have hfit := rr.fits; have hle := rr.le
          refine VRs.of (by simp; omega) fun k a hk => ?_
          obtain ⟨x, hx, hv⟩ := rr.cell k a hk
          have hlt := (List.getElem?_eq_some_iff.1 hk).1
          exact ⟨x, by rw [List.getElem?_take, if_pos hlt, List.getElem?_drop]; simpa using hx, hv⟩
        have hvl := mVs_ok (ka := ka) C l c _ hb h5 hvs
        have hlen : l.length = c.length := by
          have h6 := @VRs.length (Tg tabs gs ka) _ _ _ hvl
          have h7 := hvs.length
          omega
        exact @CellsR.mk (Tg tabs gs ka) P (mEnv tabs G next r η ro1) q l et rw_ opn cs elem fr rr.fits (by rw [hlen]; exact rr.le) (fun e => by rw [hlen]; exact rr.shut e) (fun k a hk => by
                  obtain ⟨x, hx, hv⟩ := @VRs.at (Tg tabs gs ka) _ _ _ hvl k a hk
                  have hlt := (List.getElem?_eq_some_iff.1 hk).1
                  rw [List.getElem?_take, if_pos (by omega), List.getElem?_drop] at hx
                  exact ⟨x, by simpa using hx, hv⟩) rr.free rr.whole rr.room
      · cases h
    · next j et f =>
      split at h
      · next m et' f' hg =>
        rw [Bool.and_eq_true, Bool.and_eq_true] at h
        obtain ⟨⟨h2, h3⟩, h4⟩ := h
        have e1 := Nat.eq_of_beq_eq_true h2
        subst e1
        refine ⟨?_, fun id' hid' => by rw [hr] at hid'; cases hid'; exact ⟨hnf, _, hg, rfl⟩⟩
        split at h4
        · next m' hm =>
          have e := Nat.eq_of_beq_eq_true h4
          subst e
          obtain ⟨e1, g, e2⟩ := valsOf_at C.vals hm
          rcases C.rel.live id _ hg with ⟨q, hq, hor⟩ | ⟨hgh, n2, et2, f2, e3, hv0⟩
          · obtain ⟨xs, cs, elem, fr, ys, k1, k2, k3, k4, k5, k6, k7, k8, k9⟩ := hor
            have k1' : T.val m = some (.l xs) := k1
            refine .inl ⟨q, by rw [hpl]; exact hq, xs, cs, elem, fr, ys, by show gs[j]? = _; rw [e1, k1'], k2, GRs.mono C.roLe _ _ k3, k4, k5, k6, @CellsR.mk (Tg tabs gs ka) P (mEnv tabs G next r η ro1) q [] et true true cs elem fr k7.fits k7.le k7.shut (fun k a hk => by simp at hk) k7.free k7.whole k7.room, k8, fun e => k9 ?_⟩
            rw [e] at h3; simpa using h3
          · cases e3
            have hv0' : T.val m = some (.l []) := hv0
            exact .inr ⟨by rw [mEnv_gh hG hn hr]; exact hgh, j, et, f, rfl, by show gs[j]? = _; rw [e1, hv0']⟩
        · simp at h4
      · cases h
    · next j kk sz =>
      split at h
      · next m kk' sz' hg =>
        rw [Bool.and_eq_true, Bool.and_eq_true] at h
        obtain ⟨⟨h2, h3⟩, h4⟩ := h
        have e1 := kkEq_eq h2
        have e2 := szEq_eq h3
        subst e1; subst e2
        refine ⟨?_, fun id' hid' => by rw [hr] at hid'; cases hid'; exact ⟨hnf, _, hg, rfl⟩⟩
        split at h4
        · next m' hm =>
          have e := Nat.eq_of_beq_eq_true h4
          subst e
          obtain ⟨e1, g, e2⟩ := valsOf_at C.vals hm
          obtain ⟨q, hq, xs, ms, clock, k1, k2, k3⟩ := C.rel.obj _ _ hg rfl
          have k1' : T.val m = some (.l xs) := k1
          exact .inl ⟨q, by rw [hpl]; exact hq, xs, ms, clock, by show gs[j]? = _; rw [e1, k1'], k2, k3.mono C.roLe⟩
        · simp at h4
      · next hg =>
        refine ⟨?_, fun id' hid' => by rw [hr] at hid'; cases hid'; exact ⟨hnf, _, hg, rfl⟩⟩
        split at h
        · next m hm =>
          obtain ⟨e1, g, e2⟩ := valsOf_at C.vals hm
          unfold nilNode at h
          split at h
          · next hnn =>
            obtain ⟨g', k1, k2⟩ := T.nodeOk m _ hnn (by simp)
            rw [e2] at k1; cases k1
            simp only [Nd.den, valsOf, Option.map_some, Option.some.injEq] at k2
            subst k2
            obtain ⟨q, hq, ms, clock, hb, hsz, _⟩ := C.rel.obj _ _ hg rfl
            refine .inl ⟨q, by rw [hpl]; exact hq, [], ms, clock, by show gs[j]? = _; rw [e1, e2], hb, ?_⟩
            simp only [MapR]
            have : ms.size = 0 := by simpa using hsz
            simpa using Array.eq_empty_of_size_eq_zero this
          · cases h
        · simp at h
      · cases h
    · split at h
      · next hg =>
        refine ⟨?_, fun id' hid' => by rw [hr] at hid'; cases hid'; exact ⟨hnf, _, hg, rfl⟩⟩
        obtain ⟨q, hq, ms, clock, hb, hsz, _⟩ := C.rel.obj _ _ hg rfl
        exact .inl ⟨q, by rw [hpl]; exact hq, ms, clock, hb, hsz, fun k e hk => by simp at hk⟩
      · cases h
    · cases h
  · next hr =>
    refine ⟨?_, fun id hid => by rw [hr] at hid; cases hid⟩
    split at h
    · next j et f =>
      split at h
      · next m hm =>
        obtain ⟨e1, g, e2⟩ := valsOf_at C.vals hm
        unfold nilNode at h
        split at h
        · next hnn =>
          obtain ⟨g', k1, k2⟩ := T.nodeOk m _ hnn (by simp)
          rw [e2] at k1; cases k1
          simp only [Nd.den, valsOf, Option.map_some, Option.some.injEq] at k2
          subst k2
          exact .inr ⟨mEnv_gh0 hG hn hr, j, et, f, rfl, by show gs[j]? = _; rw [e1, e2]⟩
        · cases h
      · cases h
    · cases h
  · cases h
end
end Go.Abs

/-! # AbsMatch3 -/
namespace Go.Abs
noncomputable section
set_option linter.unusedSectionVars false
set_option linter.unusedVariables false
set_option linter.unusedSimpArgs false
variable {P : Program}
variable {T : TabsOf} {tabs : List (Nat × List AV)} {G next : Nat} {η : Env} {σ : ASt} {w : World} {fz : List Nat} {r : List (Nat × Option Nat)} {ps : List Nat} {gs : List GV} {ro1 : Nat → Option Obj}

def belowSlots (n : Nat) : List (Nat × AV) → Bool
  | [] => true
  | p :: l => p.2.under n && belowSlots n l
theorem belowSlots_at {n : Nat} : ∀ {l : List (Nat × AV)}, belowSlots n l = true → ∀ k p, (k, p) ∈ l → p.under n = true
  | [], _, k, p, h => by simp at h
  | q :: l, h, k, p, hk => by
    simp only [belowSlots, Bool.and_eq_true] at h
    rcases List.mem_cons.1 hk with e | hk
    · subst e; exact h.1
    · exact belowSlots_at h.2 k p hk
/-- A shape that names only its own blocks; no table is among them. -/
def Shp.ok (s : Shp) : Bool := Nat.blt s.gn s.next && belowSlots s.next s.slots && s.objs.all fun p => belowObj s.next p.2
/-- Tables are small. -/
structure TabsLow (tabs : List (Nat × List AV)) (G : Nat) : Prop where
  low : ∀ p ∈ tabs, p.1 ≤ G
  one : ∀ p ∈ tabs, getA p.1 tabs = some p.2

theorem toVal_any (T : TabsOf) {η : Env} {a : AV} {v : Value} (h : a.toVal 4 = some v) : @VR T η a v := @toVal_VR T η 4 a v h

/-- What matches a shape's blocks. -/
theorem match_sr {ka : Nat} {s : Shp} (htabs : T.tabs = tabs) (hlow : TabsLow tabs P.globals.size) (hbo : s.objs.all (fun p => belowObj s.next p.2) = true) (h3 : s.gn < s.next) (hgn : s.gn = P.globals.size)
    (C : MCtx T P tabs s.gn s.next η σ w fz r ps gs ro1) (f1 : ∀ b o, ro1 b = some o → w.heap[b]? = some o) (f2 : ∀ id o q, id ∉ fz → σ.get id = some o → o.own = true → η id = some q → ro1 q.bl = none) (h4 : rInj r = true) (h6 : @mObjs T.toNodesOf P s.gn s.next σ fz r ps s.objs = true) :
    @SR (Tg tabs gs ka) P (mEnv tabs s.gn s.next r η ro1) (s.st tabs) w ∧ (∀ i o q, (s.st tabs).get i = some o → o.own = true → (mEnv tabs s.gn s.next r η ro1) i = some q → ∃ id o', getA i r = some (some id) ∧ id ∉ fz ∧ σ.get id = some o' ∧ o'.own = true ∧ η id = some q) := by
  letI := T
  -- what an object of the state is
  have obj : ∀ i o, (s.st tabs).get i = some o → (s.gn < i ∧ i < s.next ∧ @Live (Tg tabs gs ka) P (mEnv tabs s.gn s.next r η ro1) w i o ∧ (∀ id, getA i r = some (some id) → id ∉ fz ∧ ∃ o', σ.get id = some o' ∧ o'.own = o.own)) ∨
      (i ≤ s.gn ∧ ∃ c, o = .cells c 0 false false ∧ (i, c) ∈ tabs) := by
    intro i o hi
    have hmem := ofL_mem hi
    rcases List.mem_append.1 hmem with hmem | hmem
    · obtain ⟨g1, g2, g3⟩ := mObjs_at h6 i o hmem
      have hb := List.all_eq_true.1 hbo _ hmem
      obtain ⟨g4, g5⟩ := mO_ok C g1 g2 hb g3
      exact .inl ⟨g1, g2, g4, g5⟩
    · obtain ⟨p, hp, e⟩ := List.mem_map.1 hmem
      cases e
      exact .inr ⟨by rw [hgn]; exact hlow.low p hp, p.2, rfl, hp⟩
  -- where our own blocks lie
  have own : ∀ i o q, (s.st tabs).get i = some o → o.own = true → (mEnv tabs s.gn s.next r η ro1) i = some q → ∃ id o', getA i r = some (some id) ∧ id ∉ fz ∧ σ.get id = some o' ∧ o'.own = true ∧ η id = some q := by
    intro i o q hi ho hq
    rcases obj i o hi with ⟨g1, g2, _, g4⟩ | ⟨_, c, rfl, _⟩
    · have hq' : (if i ≤ s.gn then some ⟨i, 0, tabSz tabs i, 0⟩ else if i < s.next then (match getA i r with | some (some id) => η id | _ => none) else none) = some q := hq
      rw [if_neg (by omega), if_pos g2] at hq'
      split at hq'
      · next id hid =>
        obtain ⟨k1, o', k2, k3⟩ := g4 id hid
        exact ⟨id, o', hid, k1, k2, k3.trans ho, hq'⟩
      · cases hq'
    · cases ho
  have tabRo : ∀ p ∈ tabs, @TabRo (mEnv tabs s.gn s.next r η ro1) p.1 p.2 := by
    intro p hp
    obtain ⟨cs, elem, fr, k1, k2⟩ := C.rel.tabs p (by rw [htabs]; exact hp)
    exact ⟨cs, elem, fr, C.roLe _ _ k1, k2⟩
  refine ⟨@SR.mk (Tg tabs gs ka) P _ _ w ?_ ?_ ?_ ?_ ?_ ?_ ?_ ?_, own⟩
  · intro g hg
    exact ⟨_, _, mEnv_low (by omega)⟩
  · intro i q hq
    have hq' : (if i ≤ s.gn then some ⟨i, 0, tabSz tabs i, 0⟩ else if i < s.next then (match getA i r with | some (some id) => η id | _ => none) else none) = some q := hq
    show i < s.next
    split at hq'
    · omega
    · split at hq'
      · next h => exact h
      · cases hq'
  · intro i o hi
    rcases obj i o hi with ⟨_, _, g3, _⟩ | ⟨hle, c, rfl, hmem⟩
    · exact g3
    · obtain ⟨cs, elem, fr, k1, k2, k3⟩ := C.rel.tabs (i, c) (by rw [htabs]; exact hmem)
      have hb := C.rel.roAt _ _ k1
      have hsz : tabSz tabs i = c.length := by unfold tabSz; rw [hlow.one (i, c) hmem]
      refine .inl ⟨⟨i, 0, tabSz tabs i, 0⟩, mEnv_low hle, cs, elem, fr, hb, ?_⟩
      refine @CellsR.mk (Tg tabs gs ka) P _ _ c 0 false false cs elem fr (by simp only at k2 ⊢; omega) (by simp only; omega) (fun _ => by simp only; omega) (fun k a hk => ?_) (fun h => by cases h) (fun h => absurd rfl h) (fun h => by cases h)
      obtain ⟨x, hx, hv⟩ := k3.1 k a hk
      exact ⟨x, by simpa using hx, @TabE.vr (Tg tabs gs ka) _ _ _ hv⟩
  · intro i hg
    have hg' : (decide (s.gn < i) && decide (i < s.next) && (match getA i r with | some (some id) => η.gh id | some none => true | none => false)) = true := hg
    rw [Bool.and_eq_true, Bool.and_eq_true, decide_eq_true_iff, decide_eq_true_iff] at hg'
    obtain ⟨⟨k1, k2⟩, k3⟩ := hg'
    refine ⟨?_, k2⟩
    show (if i ≤ s.gn then some ⟨i, 0, tabSz tabs i, 0⟩ else if i < s.next then (match getA i r with | some (some id) => η id | _ => none) else none) = none
    rw [if_neg (by omega), if_pos k2]
    split at k3
    · next id hid => rw [hid]; exact (C.rel.ghd id k3).1
    · next hid => rw [hid]
    · cases k3
  · intro i o i' o' q q' a1 a2 a3 a4 a5 a6
    obtain ⟨id, u, b1, b2, b3, b4, b5⟩ := own i o q a1 a2 a5
    rcases obj i' o' a3 with ⟨g1, g2, _, g4⟩ | ⟨hle, c, rfl, hmem⟩
    · have hq' : (if i' ≤ s.gn then some ⟨i', 0, tabSz tabs i', 0⟩ else if i' < s.next then (match getA i' r with | some (some id) => η id | _ => none) else none) = some q' := a6
      rw [if_neg (by omega), if_pos g2] at hq'
      split at hq'
      · next id' hid' =>
        obtain ⟨k1, u', k2, k3⟩ := g4 id' hid'
        exact C.rel.sep id u id' u' q q' b3 b4 k2 (fun e => a4 (by subst e; exact rInj_at h4 i i' id b1 hid')) b5 hq'
      · cases hq'
    · intro e
      rw [mEnv_low hle] at a6
      cases a6
      obtain ⟨cs, elem, fr, k1, _⟩ := C.rel.tabs (i', c) (by rw [htabs]; exact hmem)
      have := C.rel.roSep id u q b3 b4 b5
      simp only at e
      rw [e] at this
      rw [k1] at this; cases this
  · exact f1
  · intro i o q a1 a2 a3
    obtain ⟨id, u, b1, b2, b3, b4, b5⟩ := own i o q a1 a2 a3
    exact f2 id u q b2 b3 b4 b5
  · exact tabRo

theorem anchR_at {r : List (Nat × Option Nat)} : ∀ {n i : Nat}, anchR r i n = true → ∀ j, i < j → j ≤ i + n → getA j r = some (some j)
  | 0, i, _, j, h1, h2 => by omega
  | n + 1, i, h, j, h1, h2 => by
    simp only [anchR, Bool.and_eq_true] at h
    by_cases e : j = i + 1
    · subst e; exact rIs_some h.1
    · exact anchR_at h.2 j (by omega) (by omega)

theorem match_ok {w0 : Base} {ro0 : Nat → Option Obj} {a : AAct} {A : Act} {s : Shp} (htabs : T.tabs = tabs) (hlow : TabsLow tabs P.globals.size) (hok : s.ok = true) (hF : @Fresh T P w0 ro0 η σ w) (hl : σ.lock = 0) (ht : @TR T P η a A) (hm : @mAll T.toNodesOf P s a σ fz r ps = true) (hps : valsOf T.val ps = some gs) : StateIs P tabs s gs w0 ro0 A w := by
  letI := T
  unfold mAll at hm
  simp only [Bool.and_eq_true, Nat.blt_eq] at hm
  obtain ⟨⟨⟨⟨⟨⟨⟨⟨k1, k2⟩, k3⟩, h1⟩, h2⟩, h3⟩, h4⟩, h5⟩, h6⟩ := hm
  have k1 := Nat.eq_of_beq_eq_true k1
  have e1 := Nat.eq_of_beq_eq_true h1
  have e2 := Nat.eq_of_beq_eq_true h2
  unfold Shp.ok at hok
  rw [Bool.and_eq_true, Bool.and_eq_true] at hok
  obtain ⟨⟨_, hbs⟩, hbo⟩ := hok
  have hgn : s.gn = P.globals.size := by rw [e2]; exact ht.gn
  obtain ⟨ro1, f1, f2, f3⟩ := freezeAll hF hl fz
  have C : MCtx T P tabs s.gn s.next η σ w fz r ps gs ro1 := ⟨hF.rel, hps, f1, f3, hgn, h3⟩
  obtain ⟨hS, own⟩ := match_sr (ka := s.ka) htabs hlow hbo h3 hgn C f2.rel.roAt (fun id o q b2 b3 b4 b5 => f2.rel.roSep id o q (by rw [kills_get, if_neg b2]; exact b3) b4 b5) h4 h6
  refine ⟨mEnv tabs s.gn s.next r η ro1, ?_, ?_⟩
  · refine @Fresh.mk (Tg tabs gs s.ka) P w0 ro0 _ _ w hS hF.kept ?_ ?_ ?_ ?_
    · intro i o q a1 a2 a3
      obtain ⟨id, u, b1, b2, b3, b4, b5⟩ := own i o q a1 a2 a3
      exact hF.own id u q b3 b4 b5
    · exact f2.roLe
    · exact f2.roNew
    · intro i q hi
      obtain ⟨a1, a2, a3⟩ := hF.anc i q hi
      have a3' : i ≤ P.globals.size + s.ka := by rw [k1]; exact a3
      refine ⟨?_, a2, a3'⟩
      rw [mEnv_at (by omega) (by omega) (anchR_at k3 i (by omega) (by omega))]
      exact a1
  · refine @TR.mk (Tg tabs gs s.ka) P _ _ A ?_ ?_ ht.none ?_
    · exact hgn
    · show A.tmps.size = s.n
      rw [e1]; exact ht.size
    · intro k p hk
      obtain ⟨v, v1, v2⟩ := mSlots_at h5 k p (ofL_mem hk)
      obtain ⟨x, hx, hv⟩ := ht.slot k v v1
      exact ⟨x, hx, mV_ok C p v x (belowSlots_at hbs k p (ofL_mem hk)) v2 hv⟩
end
end Go.Abs

/-! # AbsSub -/
namespace Go.Abs
noncomputable section
set_option linter.unusedSectionVars false
set_option linter.unusedVariables false
set_option linter.unusedSimpArgs false
variable {P : Program}

mutual
def AV.mapN (f : Nat → Nat) : AV → AV
  | .nd j => .nd (f j)
  | .rx j off => .rx (f j) off
  | .sv id j => .sv id (f j)
  | .pv id j off => .pv id (f j) off
  | .pd id j => .pd id (f j)
  | .fn g fi cs => .fn g (AV.mapNs f fi) (AV.mapNs f cs)
  | .ifc t a => .ifc t (a.mapN f)
  | .agg l => .agg (AV.mapNs f l)
  | .tup l => .tup (AV.mapNs f l)
  | .ro l => .ro (AV.mapNs f l)
  | .rp a off => .rp (a.mapN f) off
  | a => a
def AV.mapNs (f : Nat → Nat) : List AV → List AV
  | [] => []
  | a :: l => a.mapN f :: AV.mapNs f l
end
theorem mapNs_map (f : Nat → Nat) : ∀ l : List AV, AV.mapNs f l = l.map (AV.mapN f)
  | [] => rfl
  | a :: l => by simp [AV.mapNs, mapNs_map f l]

def AObj.mapN (f : Nat → Nat) : AObj → AObj
  | .cells c et rw opn => .cells (AV.mapNs f c) et rw opn
  | .iter s pos => .iter s pos
  | .map es => .map (es.map fun e => (e.1.mapN f, e.2.mapN f))
  | .iterM m => .iterM m
  | .vec j et b => .vec (f j) et b
  | .smap j kk sz => .smap (f j) kk sz
  | .pmap es => .pmap (es.map fun e => (e.1, e.2.mapN f))
theorem AObj.mapN_own (f : Nat → Nat) (o : AObj) : (o.mapN f).own = o.own := by cases o <;> rfl

section
variable {S T : TabsOf} {f : Nat → Nat} {η : Env}
mutual
theorem VR.mapN (h : ∀ j g, S.val j = some g → T.val (f j) = some g) : ∀ (a : AV) (v : Value), @VR S η a v → @VR T η (a.mapN f) v
  | .b _, _, hv => by simpa only [VR, AV.mapN] using hv
  | .i _ _, _, hv => by simpa only [VR, AV.mapN] using hv
  | .s _, _, hv => by simpa only [VR, AV.mapN] using hv
  | .nilp, _, hv => by simpa only [VR, AV.mapN] using hv
  | .p _ _, _, hv => by simpa only [VR, AV.mapN] using hv
  | .nils, _, hv => by simpa only [VR, AV.mapN] using hv
  | .sl _ _ _ _, _, hv => by simpa only [VR, AV.mapN] using hv
  | .nilm, _, hv => by simpa only [VR, AV.mapN] using hv
  | .mp _, _, hv => by simpa only [VR, AV.mapN] using hv
  | .nilf, _, hv => by simpa only [VR, AV.mapN] using hv
  | .fn _ fi cs, _, hv => by
    simp only [VR, AV.mapN] at hv ⊢
    obtain ⟨us, vs, e, h1, h2⟩ := hv
    exact ⟨us, vs, e, VRs.mapN h fi us h1, VRs.mapN h cs vs h2⟩
  | .nili, _, hv => by simpa only [VR, AV.mapN] using hv
  | .ifc _ a, _, hv => by simp only [VR, AV.mapN] at hv ⊢; obtain ⟨x, e, h1⟩ := hv; exact ⟨x, e, VR.mapN h a x h1⟩
  | .agg l, _, hv => by simp only [VR, AV.mapN] at hv ⊢; obtain ⟨x, e, h1⟩ := hv; exact ⟨x, e, VRs.mapN h l x h1⟩
  | .tup l, _, hv => by simp only [VR, AV.mapN] at hv ⊢; obtain ⟨x, e, h1⟩ := hv; exact ⟨x, e, VRs.mapN h l x h1⟩
  | .z _ _ _, _, hv => by simpa only [VR, AV.mapN] using hv
  | .ro l, _, hv => by
    simp only [VR, AV.mapN] at hv ⊢
    have hl : (AV.mapNs f l).length = l.length := by rw [mapNs_map]; simp
    rcases hv with ⟨rfl, hv⟩ | ⟨bl, off, c, xs, sz, e, hc, h1, h2, h3⟩
    · exact .inl ⟨rfl, hv⟩
    · rw [hl]
      exact .inr ⟨bl, off, c, xs, sz, e, hc, VRs.mapN h l xs h1, h2, fun hn => h3 (by intro e'; apply hn; rw [e']; rfl)⟩
  | .rp a _, _, hv => by
    simp only [VR, AV.mapN] at hv ⊢
    obtain ⟨bl, base, cs, elem, fr, x, h1, h2, h3⟩ := hv
    exact ⟨bl, base, cs, elem, fr, x, h1, VR.mapN h a x h2, h3⟩
  | .nd _, _, hv => by simp only [VR, AV.mapN] at hv ⊢; obtain ⟨g, h1, h2⟩ := hv; exact ⟨g, h _ _ h1, h2⟩
  | .rx _ _, _, hv => by simp only [VR, AV.mapN] at hv ⊢; obtain ⟨g, bl, base, cs, elem, fr, x, h1, h2⟩ := hv; exact ⟨g, bl, base, cs, elem, fr, x, h _ _ h1, h2⟩
  | .sv _ _, _, hv => by simp only [VR, AV.mapN] at hv ⊢; obtain ⟨xs, h1, h2⟩ := hv; exact ⟨xs, h _ _ h1, h2⟩
  | .pv _ _ _, _, hv => by simp only [VR, AV.mapN] at hv ⊢; obtain ⟨q, k, i, h1, h2, h3⟩ := hv; exact ⟨q, k, i, h1, h _ _ h2, h3⟩
  | .pd _ _, _, hv => by simp only [VR, AV.mapN] at hv ⊢; obtain ⟨xs, p, h1, h2⟩ := hv; exact ⟨xs, p, h _ _ h1, h2⟩
theorem VRs.mapN (h : ∀ j g, S.val j = some g → T.val (f j) = some g) : ∀ (l : List AV) (vs : List Value), @VRs S η l vs → @VRs T η (AV.mapNs f l) vs
  | [], _, hv => by simpa only [VRs, AV.mapNs] using hv
  | a :: l, _, hv => by
    simp only [VRs, AV.mapNs] at hv ⊢
    obtain ⟨x, xs, e, h1, h2⟩ := hv
    exact ⟨x, xs, e, VR.mapN h a x h1, VRs.mapN h l xs h2⟩
end

theorem OR.mapN (h : ∀ j g, S.val j = some g → T.val (f j) = some g) {q : Place} {w : World} {o : AObj} (r : @OR S P η q w o) : @OR T P η q w (o.mapN f) := by
  cases o with
  | cells c et rw_ opn =>
    obtain ⟨cs, elem, fr, h1, ⟨r1, r2, r3, r4, r5, r6, r7⟩⟩ := r
    have hl : (AV.mapNs f c).length = c.length := by rw [mapNs_map]; simp
    refine ⟨cs, elem, fr, h1, @CellsR.mk T P η q _ et rw_ opn cs elem fr r1 (by rw [hl]; exact r2) (fun e => by rw [hl]; exact r3 e) (fun k a hk => ?_) r5 r6 r7⟩
    rw [mapNs_map, List.getElem?_map] at hk
    obtain ⟨a0, h2, rfl⟩ := Option.map_eq_some_iff.1 hk
    obtain ⟨x, hx, hv⟩ := r4 k a0 h2
    exact ⟨x, hx, VR.mapN h a0 x hv⟩
  | iter s pos => exact r
  | map es =>
    obtain ⟨ms, clock, h1, h2, h3⟩ := r
    refine ⟨ms, clock, h1, by simpa using h2, fun k e hk => ?_⟩
    rw [List.getElem?_map] at hk
    obtain ⟨e0, h4, rfl⟩ := Option.map_eq_some_iff.1 hk
    obtain ⟨m, hm, ha, hb⟩ := h3 k e0 h4
    exact ⟨m, hm, VR.mapN h _ _ ha, VR.mapN h _ _ hb⟩
  | iterM m => cases m <;> exact r
  | smap j kk sz =>
    obtain ⟨xs, ms, clock, k1, k2, k3⟩ := r
    exact ⟨xs, ms, clock, h _ _ k1, k2, k3⟩
  | pmap es =>
    obtain ⟨hn, ms, clock, ms', h1, hp, h2, h3⟩ := r
    refine ⟨by simpa [List.map_map, Function.comp_def] using hn, ms, clock, ms', h1, hp, by simpa using h2, fun k e hk => ?_⟩
    rw [List.getElem?_map] at hk
    obtain ⟨e0, h4, rfl⟩ := Option.map_eq_some_iff.1 hk
    obtain ⟨m, hm, ha, hb⟩ := h3 k e0 h4
    exact ⟨m, hm, ha, VR.mapN h _ _ hb⟩
  | vec j et b =>
    obtain ⟨xs, cs, elem, fr, ys, k1, k2, k3, k4, k5, k6, ⟨r1, r2, r3, r4, r5, r6, r7⟩, k8⟩ := r
    exact ⟨xs, cs, elem, fr, ys, h _ _ k1, k2, k3, k4, k5, k6, @CellsR.mk T P η q [] et true true cs elem fr r1 r2 r3 (fun k a hk => by simp at hk) r5 r6 r7, k8⟩
theorem Live.mapN (h : ∀ j g, S.val j = some g → T.val (f j) = some g) {w : World} {i : Nat} {o : AObj} (r : @Live S P η w i o) : @Live T P η w i (o.mapN f) := by
  rcases r with ⟨q, hq, hr⟩ | ⟨hg, n, et, b, rfl, hv⟩
  · exact .inl ⟨q, hq, OR.mapN h hr⟩
  · exact .inr ⟨hg, f n, et, b, rfl, h _ _ hv⟩
end

theorem ofL_get {α : Type} : ∀ (l : List (Nat × α)) (k : Nat), (ofL l).get k = getA k l
  | [], k => by simp [ofL, getA]
  | (j, u) :: l, k => by
    rw [ofL, Tr.get_set, getA]
    cases hb : Nat.beq k j with
    | true => rw [if_pos (Nat.eq_of_beq_eq_true hb)]; rfl
    | false => rw [if_neg (fun e => by rw [e, Nat.beq_refl] at hb; cases hb)]; exact ofL_get l k
theorem getA_map {α β : Type} (g : α → β) : ∀ (l : List (Nat × α)) (m : List (Nat × β)) (m' : List (Nat × α)) (k : Nat) (o : β), getA k (l.map (fun p => (p.1, g p.2)) ++ m) = some o → (∃ o0, getA k (l ++ m') = some o0 ∧ o = g o0) ∨ (getA k m = some o ∧ (∀ o', getA k m' = some o' → getA k (l ++ m') = some o'))
  | [], m, m', k, o, h => .inr ⟨h, fun o' h' => h'⟩
  | p :: l, m, m', k, o, h => by
    simp only [List.map_cons, List.cons_append, getA] at h ⊢
    cases hb : Nat.beq k p.1 with
    | true => rw [hb] at h; simp only [cond_true, Option.some.injEq] at h ⊢; exact .inl ⟨p.2, rfl, h.symm⟩
    | false => rw [hb] at h; simp only [cond_false] at h ⊢; exact getA_map g l m m' k o h

/-- The state of a shape, with nodes for its places. -/
def Shp.actN (s : Shp) (f : Nat → Nat) : AAct := ⟨ofL (s.slots.map fun p => (p.1, p.2.mapN f)), s.n, s.gn⟩
def Shp.stN (tabs : List (Nat × List AV)) (s : Shp) (f : Nat → Nat) : ASt := ⟨ofL (s.objs.map (fun p => (p.1, p.2.mapN f)) ++ tabObjs tabs), s.next, 0⟩

theorem fresh_put {T : TabsOf} {tabs : List (Nat × List AV)} {s : Shp} {gs : List GV} {f : Nat → Nat} {w0 : Base} {w : World} {ro0 : Nat → Option Obj} {η : Env} (htabs : T.tabs = tabs) (hka : T.ka = s.ka) (hf : ∀ j g, gs[j]? = some g → T.val (f j) = some g) (h : @Fresh (Tg tabs gs s.ka) P w0 ro0 η (s.st tabs) w) :
    @Fresh T P w0 ro0 η (s.stN tabs f) w := by
  obtain ⟨⟨hglob, hdom, hlive, hghd, hsep, hroAt, hroSep, htab⟩, hkept, hown, hroLe, hroNew, hanc⟩ := h
  have hf' : ∀ j g, (Tg tabs gs s.ka).val j = some g → T.val (f j) = some g := hf
  have obj : ∀ i o, (s.stN tabs f).get i = some o → (∃ o0, (s.st tabs).get i = some o0 ∧ o = o0.mapN f) ∨ (∃ c, o = .cells c 0 false false ∧ (i, c) ∈ tabs ∧ (s.st tabs).get i = some o) := by
    intro i o hi
    have hi' : getA i (s.objs.map (fun p => (p.1, p.2.mapN f)) ++ tabObjs tabs) = some o := (ofL_get _ i).symm.trans hi
    rcases getA_map (AObj.mapN f) s.objs (tabObjs tabs) (tabObjs tabs) i o hi' with ⟨o0, h1, h2⟩ | ⟨h1, h2⟩
    · exact .inl ⟨o0, (ofL_get _ i).trans h1, h2⟩
    · have hm := getA_mem h1
      obtain ⟨p, hp, e⟩ := List.mem_map.1 hm
      cases e
      exact .inr ⟨p.2, rfl, hp, (ofL_get _ _).trans (h2 _ h1)⟩
  have own : ∀ i o, (s.stN tabs f).get i = some o → ∃ o0, (s.st tabs).get i = some o0 ∧ o0.own = o.own := by
    intro i o hi
    rcases obj i o hi with ⟨o0, h1, rfl⟩ | ⟨c, rfl, _, h1⟩
    · exact ⟨o0, h1, (AObj.mapN_own f o0).symm⟩
    · exact ⟨_, h1, rfl⟩
  refine @Fresh.mk T P w0 ro0 _ _ w (@SR.mk T P _ _ w hglob hdom ?_ hghd ?_ hroAt ?_ ?_) hkept ?_ hroLe hroNew (by rw [hka]; exact hanc)
  · intro i o hi
    rcases obj i o hi with ⟨o0, h1, rfl⟩ | ⟨c, rfl, hm, h1⟩
    · exact Live.mapN hf' (hlive i o0 h1)
    · rcases hlive i _ h1 with ⟨q, hq, cs, elem, fr, hb, ⟨r1, r2, r3, r4, r5, r6, r7⟩⟩ | ⟨_, _, _, _, e, _⟩
      rotate_left
      · cases e
      obtain ⟨cs2, elem2, fr2, k1, k2, k3⟩ := htab (i, c) hm
      refine .inl ⟨q, hq, cs, elem, fr, hb, @CellsR.mk T P _ _ c 0 false false cs elem fr r1 r2 r3 (fun k a hk => ?_) r5 r6 r7⟩
      obtain ⟨x, hx, hv⟩ := r4 k a hk
      obtain ⟨y, hy, hv2⟩ := k3.1 k a hk
      rcases hv2 with hv2 | ⟨_, _, _, _, rfl, rfl, _, _⟩
      · have : x = y := @toVal_unique (Tg tabs gs s.ka) _ 4 a y x hv2 hv
        subst this
        exact ⟨x, hx, toVal_any T hv2⟩
      · exact ⟨x, hx, by simpa only [VR] using hv⟩
  · intro i o i' o' q q' a1 a2 a3 a4 a5 a6
    obtain ⟨u, u1, u2⟩ := own i o a1
    obtain ⟨u', u1', u2'⟩ := own i' o' a3
    exact hsep i u i' u' q q' u1 (u2.trans a2) u1' a4 a5 a6
  · intro i o q a1 a2 a3
    obtain ⟨u, u1, u2⟩ := own i o a1
    exact hroSep i u q u1 (u2.trans a2) a3
  · rw [htabs]; exact htab
  · intro i o q a1 a2 a3
    obtain ⟨u, u1, u2⟩ := own i o a1
    exact hown i u q u1 (u2.trans a2) a3
theorem shp_put {T : TabsOf} {tabs : List (Nat × List AV)} {s : Shp} {gs : List GV} {f : Nat → Nat} {w0 : Base} {w : World} {ro0 : Nat → Option Obj} {A : Act} (htabs : T.tabs = tabs) (hka : T.ka = s.ka) (hf : ∀ j g, gs[j]? = some g → T.val (f j) = some g) (h : StateIs P tabs s gs w0 ro0 A w) :
    ∃ η, @Fresh T P w0 ro0 η (s.stN tabs f) w ∧ @TR T P η (s.actN f) A := by
  obtain ⟨η, hF, ⟨tgn, tsize, tnone, tslot⟩⟩ := h
  have hf' : ∀ j g, (Tg tabs gs s.ka).val j = some g → T.val (f j) = some g := hf
  refine ⟨η, fresh_put htabs hka hf hF, @TR.mk T P _ _ A tgn tsize tnone ?_⟩
  · intro k v hk
    have hk' : getA k (s.slots.map (fun p => (p.1, p.2.mapN f)) ++ []) = some v := by rw [List.append_nil]; exact (ofL_get _ k).symm.trans hk
    rcases getA_map (AV.mapN f) s.slots [] [] k v hk' with ⟨v0, h1, rfl⟩ | ⟨h1, _⟩
    · rw [List.append_nil] at h1
      obtain ⟨x, hx, hv⟩ := tslot k v0 ((ofL_get _ k).trans h1)
      exact ⟨x, hx, VR.mapN hf' v0 x hv⟩
    · simp [getA] at h1
end
end Go.Abs
