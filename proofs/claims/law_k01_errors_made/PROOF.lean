import PyProof.Rows.All
import Wide.All
import OpenK.AllK
import Wide.FinOn
import HandS.ForMost
import HandS.ForExc
import KE.KeyNested
import HandS.ExcInit
import HandS.Star
import HandS.CallSlots
import HandS.ExcOwn
import HandS.WordsExc
import HandS.Wide
import HandS.TupAny
import HandS.WordsDict
import HandS.TupLen
import KE.SortData
import KE.KDictSum
import HandS.More
import KE.KExcSuper
import HandS.ExcSuper
import HandS.ExcField
import HandS.ExcIs
import HandS.IsInst
import HandS.ExcValue
import HandS.MakeKw
import HandS.Iter
import PyProof.ReprRoads
import HandS.Ends
import HandS.HeadEnd
import HandS.Head0
import HandS.Head1
import HandS.Head2
import HandS.HeadHook1
import HandS.HeadHook2
import PySem.Challenge.RW_listrings_k01_errors_made
set_option Elab.async false
set_option linter.all false
set_option maxRecDepth 100000
set_option maxHeartbeats 4000000
/-! DL1: data with ownership, the relation between values and data, the frame. -/
namespace DL
open PySem PySem.Spec PyProof.Rows L2

/-- a key of a dict: an int or a text, or a tuple of such -/
abbrev DKey := Key ⊕ List Key
/-- data: u tells that a list, dict or instance is owned by the place that holds it -/
inductive D where
  | non | bl (b : Bool) | int (i : Int) | str (s : Str)
  | tup (xs : List D) | lst (u : Bool) (xs : List D) | dic (u : Bool) (kvs : List (DKey × D)) | set (xs : List D)
  | ins (u : Bool) (C : Str) (fs : List (Str × D)) | exc (C : Str) (fs : List (Str × D))
  | ref (a : Addr) | ty (n : String)

def kD : Key → D
  | .inl i => .int i
  | .inr x => .str x
def keyD : DKey → D
  | .inl k => kD k
  | .inr ks => .tup (ks.map kD)
def tagK (p : Key × V) : DKey × V := (.inl p.1, p.2)
def tagT (p : List Key × V) : DKey × V := (.inr p.1, p.2)

structure Gam where
  P : Program
  w : World
  K : PySem.W.Frag
  mg : Str → Option Value

/-- a list that never changes -/
def SqLF (K : PySem.W.Frag) (F : Addr → Prop) (H : Hp) (a : Addr) (vs : List V) : Prop := (F a ∧ Rd H a (.lst vs)) ∨ SqL K (fun _ => none) a vs
theorem SqLF.sq {K : PySem.W.Frag} {F : Addr → Prop} {H : Hp} {a : Addr} {vs : List V} (h : SqLF K F H a vs) : SqL K H a vs := by
  rcases h with ⟨_, h⟩ | (h | h)
  · exact .inl h
  · rcases h with h | ⟨_, h⟩ <;> cases h
  · exact .inr h

mutual
inductive R (G : Gam) (F : Addr → Prop) (H : Hp) : V → D → List Addr → Prop
  | non : R G F H .non .non []
  | bl (b) : R G F H (.bl b) (.bl b) []
  | int (i) : R G F H (.int i) (.int i) []
  | str (s) : R G F H (.str s) (.str s) []
  | ref (a) : R G F H (.ref a) (.ref a) []
  | ty (n) : R G F H (.ty n) (.ty n) []
  | tup {a vs ds fp} : SqT G.K H a vs → Rs G F H vs ds fp → R G F H (.ref a) (.tup ds) fp
  | lstO {a vs ds fp} : H a = some (.lst vs) → Rs G F H vs ds fp → R G F H (.ref a) (.lst true ds) (a :: fp)
  | lstF {a vs ds} : SqLF G.K F H a vs → Rs G F H vs ds [] → R G F H (.ref a) (.lst false ds) []
  | dicO {a es kvs fp} : H a = some (.dK es) → Re G F H (es.map tagK) kvs fp → (kvs.map (·.1)).Nodup → R G F H (.ref a) (.dic true kvs) (a :: fp)
  | dicF {a es kvs} : F a → Rd H a (.dK es) → Re G F H (es.map tagK) kvs [] → (kvs.map (·.1)).Nodup → R G F H (.ref a) (.dic false kvs) []
  | ditO {a es kvs fp} : H a = some (.dT es) → Re G F H (es.map tagT) kvs fp → (kvs.map (·.1)).Nodup → kvs ≠ [] → R G F H (.ref a) (.dic true kvs) (a :: fp)
  | ditF {a es kvs} : F a → Rd H a (.dT es) → Re G F H (es.map tagT) kvs [] → (kvs.map (·.1)).Nodup → kvs ≠ [] → R G F H (.ref a) (.dic false kvs) []
  | insO {a C Ca dx hfs fs fp} : G.mg C = some (.ref Ca) → H a = some (.ins Ca dx hfs) → Rf G F H hfs fs fp → R G F H (.ref a) (.ins true C fs) (a :: fp)
  | insF {a C Ca dx hfs fs} : F a → G.mg C = some (.ref Ca) → H a = some (.ins Ca dx hfs) → Rf G F H hfs fs [] → R G F H (.ref a) (.ins false C fs) []
  | excF {a C Ca d hfs fs} : F a → F d → G.mg C = some (.ref Ca) → H a = some (exo a Ca (some d)) → H d = some (exd d hfs) → Rf G F H hfs fs [] → R G F H (.ref a) (.exc C fs) []
  | excN {a C Ca} : F a → G.mg C = some (.ref Ca) → H a = some (exo a Ca none) → R G F H (.ref a) (.exc C []) []
inductive Rs (G : Gam) (F : Addr → Prop) (H : Hp) : List V → List D → List Addr → Prop
  | nil : Rs G F H [] [] []
  | cons {v d vs ds f1 f2} : R G F H v d f1 → Rs G F H vs ds f2 → Rs G F H (v :: vs) (d :: ds) (f1 ++ f2)
inductive Rf (G : Gam) (F : Addr → Prop) (H : Hp) : List (Str × V) → List (Str × D) → List Addr → Prop
  | nil : Rf G F H [] [] []
  | cons {n v d vs ds f1 f2} : R G F H v d f1 → Rf G F H vs ds f2 → Rf G F H ((n, v) :: vs) ((n, d) :: ds) (f1 ++ f2)
inductive Re (G : Gam) (F : Addr → Prop) (H : Hp) : List (DKey × V) → List (DKey × D) → List Addr → Prop
  | nil : Re G F H [] [] []
  | cons {k v d vs ds f1 f2} : R G F H v d f1 → Re G F H vs ds f2 → Re G F H ((k, v) :: vs) ((k, d) :: ds) (f1 ++ f2)
end

/-- what may be owned -/
def Ownable : HO → Prop
  | .lst _ => True
  | .ins _ _ _ => True
  | .dK _ => True
  | .dT _ => True
  | .ext _ => True
  | _ => False

structure Wd (F : Addr → Prop) (H : Hp) (fp : List Addr) : Prop where
  nodup : fp.Nodup
  ff : ∀ a ∈ fp, ¬ F a
  own : ∀ a ∈ fp, ∃ o, H a = some o ∧ Ownable o
  ft : ∀ a, F a → H a ≠ none

def IsExt : HO → Prop
  | .dK _ => True
  | .dT _ => True
  | _ => False
structure Ext (F : Addr → Prop) (H : Hp) (fp : List Addr) (F' : Addr → Prop) (H' : Hp) (fp' : List Addr) : Prop where
  mono : ∀ a, F a → F' a
  frame : ∀ a o, H a = some o → a ∉ fp → H' a = some o ∨ (F a ∧ IsExt o ∧ ∃ od, H' a = some (.frz od o))
  old : ∀ a ∈ fp', a ∈ fp ∨ H a = none
  fz : ∀ a, F' a → F a ∨ a ∈ fp ∨ H a = none
  nn : ∀ a, H a ≠ none → H' a ≠ none

section
variable {G : Gam} {F F1 F2 : Addr → Prop} {H H1 H2 : Hp} {fp fp1 fp2 g g1 g2 : List Addr}

theorem Ext.refl (W : Wd F H fp) : Ext F H fp F H fp := ⟨fun _ h => h, fun _ _ h _ => .inl h, fun _ h => .inl h, fun _ h => .inl h, fun _ h => h⟩
theorem Ext.trans (a : Ext F H fp F1 H1 fp1) (b : Ext F1 H1 fp1 F2 H2 fp2) : Ext F H fp F2 H2 fp2 where
  mono := fun x h => b.mono x (a.mono x h)
  frame := fun x o h n => by
    have nx : x ∉ fp1 := fun z => (a.old x z).elim n fun q => by rw [q] at h; cases h
    rcases a.frame x o h n with q | ⟨f, i, od, q⟩
    · rcases b.frame x o q nx with q2 | ⟨f2, i, od, q2⟩
      · exact .inl q2
      · exact .inr ⟨(a.fz x f2).elim id (fun z => z.elim (fun z => absurd z n) (fun z => by rw [z] at h; cases h)), i, od, q2⟩
    · rcases b.frame x _ q nx with q2 | ⟨_, i2, _⟩
      · exact .inr ⟨f, i, od, q2⟩
      · exact i2.elim
  old := fun x z => (b.old x z).elim (a.old x) fun q => .inr (Classical.byContradiction fun e => a.nn x e q)
  fz := fun x z => (b.fz x z).elim (a.fz x) fun q => q.elim (fun m => .inr (a.old x m)) fun q => .inr (.inr (Classical.byContradiction fun e => a.nn x e q))
  nn := fun x h => b.nn x (a.nn x h)
theorem Ext.stay (E : Ext F H fp F1 H1 fp1) {a : Addr} {o : HO} (h : H a = some o) (n : a ∉ fp) (x : ¬ IsExt o) : H1 a = some o := (E.frame a o h n).elim id fun z => absurd z.2.1 x
theorem Ext.stayO (E : Ext F H fp F1 H1 fp1) {a : Addr} {o : HO} (h : H a = some o) (n : a ∉ fp) (x : ¬ F a) : H1 a = some o := (E.frame a o h n).elim id fun z => absurd z.1 x
theorem Wd.perm (W : Wd F H fp) (p : fp.Perm fp1) : Wd F H fp1 := ⟨p.nodup_iff.mp W.nodup, fun a h => W.ff a (p.mem_iff.mpr h), fun a h => W.own a (p.mem_iff.mpr h), W.ft⟩
theorem Ext.perm (E : Ext F H fp F1 H1 fp1) (p : fp1.Perm fp2) : Ext F H fp F1 H1 fp2 := ⟨E.mono, E.frame, fun a h => E.old a (p.mem_iff.mpr h), E.fz, E.nn⟩
theorem Wd.sub (W : Wd F H fp) (s : fp1.Sublist fp) : Wd F H fp1 := ⟨W.nodup.sublist s, fun a h => W.ff a (s.subset h), fun a h => W.own a (s.subset h), W.ft⟩
theorem Wd.right (W : Wd F H (fp ++ g)) : Wd F H g := W.sub (List.sublist_append_right _ _)
theorem Wd.left (W : Wd F H (fp ++ g)) : Wd F H fp := W.sub (List.sublist_append_left _ _)
/-- what lies beside what is worked upon -/
theorem Ext.beside (E : Ext F H g F1 H1 g1) (W : Wd F H (fp ++ g)) : Ext F H (fp ++ g) F1 H1 (fp ++ g1) where
  mono := E.mono
  frame := fun a o h n => E.frame a o h fun z => n (List.mem_append_right _ z)
  old := fun a z => (List.mem_append.mp z).elim (fun q => .inl (List.mem_append_left _ q)) fun q => (E.old a q).elim (fun m => .inl (List.mem_append_right _ m)) .inr
  fz := fun a z => (E.fz a z).elim .inl fun q => q.elim (fun m => .inr (.inl (List.mem_append_right _ m))) fun q => .inr (.inr q)
  nn := E.nn
theorem Wd.apart (W : Wd F H (fp ++ g)) : ∀ a ∈ fp, a ∉ g := fun a h1 h2 => (List.nodup_append.mp W.nodup).2.2 a h1 a h2 rfl
theorem Wd.apart2 (W : Wd F H (fp ++ g)) : ∀ a ∈ fp, a ∉ g ∧ ¬ F a := fun a h => ⟨W.apart a h, W.left.ff a h⟩
theorem Wd.nin (W : Wd F H g) {a : Addr} (h : F a) : a ∉ g := fun z => W.ff a z h
theorem Wd.not_own {o : HO} {a : Addr} (W : Wd F H g) (h : H a = some o) (n : ¬ Ownable o) : a ∉ g := fun z => by
  obtain ⟨u, e, q⟩ := W.own a z
  rw [h] at e; cases e; exact n q
theorem Wd.beside (W : Wd F H (fp ++ g)) (E : Ext F H g F1 H1 g1) (W1 : Wd F1 H1 g1) : Wd F1 H1 (fp ++ g1) where
  nodup := by
    refine List.nodup_append.mpr ⟨W.left.nodup, W1.nodup, fun a h1 b h2 e => ?_⟩
    subst e
    rcases E.old a h2 with q | q
    · exact W.apart a h1 q
    · obtain ⟨o, e, _⟩ := W.left.own a h1
      rw [e] at q; cases q
  ff := fun a h z => by
    rcases List.mem_append.mp h with h | h
    · rcases E.fz a z with q | q | q
      · exact W.left.ff a h q
      · exact W.apart a h q
      · obtain ⟨o, e, _⟩ := W.left.own a h
        rw [e] at q; cases q
    · exact W1.ff a h z
  own := fun a h => by
    rcases List.mem_append.mp h with h | h
    · obtain ⟨o, e, q⟩ := W.left.own a h
      exact ⟨o, E.stayO e (W.apart a h) (W.left.ff a h), q⟩
    · exact W1.own a h
  ft := W1.ft

/-! ### what is told stays -/
theorem Rd.ext {a : Addr} {u : HO} (h : Rd H a u) (E : Ext F H g F1 H1 g1) (n : a ∉ g) : Rd H1 a u := by
  rcases h with h | ⟨o, h⟩
  · exact (E.frame a _ h n).elim .inl fun z => .inr z.2.2
  · exact .inr ⟨o, E.stay h n fun z => z⟩
theorem SqT.ext {a : Addr} {vs : List V} (h : SqT G.K H a vs) (E : Ext F H g F1 H1 g1) (W : Wd F H g) : SqT G.K H1 a vs := by
  rcases h with h | h
  · refine .inl (Rd.ext h E ?_)
    rcases h with h | ⟨o, h⟩
    · exact W.not_own h (fun z => z)
    · exact W.not_own h (fun z => z)
  · exact .inr h
theorem SqLF.ext {a : Addr} {vs : List V} (h : SqLF G.K F H a vs) (E : Ext F H g F1 H1 g1) (W : Wd F H g) : SqLF G.K F1 H1 a vs := by
  rcases h with ⟨f, h⟩ | h
  · exact .inl ⟨E.mono a f, Rd.ext h E (W.nin f)⟩
  · exact .inr h

mutual
/-- what is told of a value stays, where what is worked upon lies apart -/
theorem R.keep (E : Ext F H g F1 H1 g1) (W : Wd F H g) : ∀ {v : V} {d : D} {fp : List Addr}, R G F H v d fp → (∀ a ∈ fp, a ∉ g ∧ ¬ F a) → R G F1 H1 v d fp
  | _, _, _, .non, _ => .non
  | _, _, _, .bl b, _ => .bl b
  | _, _, _, .int i, _ => .int i
  | _, _, _, .str s, _ => .str s
  | _, _, _, .ref a, _ => .ref a
  | _, _, _, .ty n, _ => .ty n
  | _, _, _, .tup h r, n => .tup (SqT.ext h E W) (Rs.keep E W r n)
  | _, _, _, .lstO h r, n => .lstO (E.stay h (n _ List.mem_cons_self).1 fun z => z) (Rs.keep E W r fun a m => n a (List.mem_cons_of_mem _ m))
  | _, _, _, .lstF h r, n => .lstF (SqLF.ext h E W) (Rs.keep E W r n)
  | _, _, _, .ditO h r k z, n => .ditO (E.stayO h (n _ List.mem_cons_self).1 (n _ List.mem_cons_self).2) (Re.keep E W r fun a m => n a (List.mem_cons_of_mem _ m)) k z
  | _, _, _, .ditF f h r k z, n => .ditF (E.mono _ f) (Rd.ext h E (W.nin f)) (Re.keep E W r n) k z
  | _, _, _, .dicO h r k, n => .dicO (E.stayO h (n _ List.mem_cons_self).1 (n _ List.mem_cons_self).2) (Re.keep E W r fun a m => n a (List.mem_cons_of_mem _ m)) k
  | _, _, _, .dicF f h r k, n => .dicF (E.mono _ f) (Rd.ext h E (W.nin f)) (Re.keep E W r n) k
  | _, _, _, .insO c h r, n => .insO c (E.stay h (n _ List.mem_cons_self).1 fun z => z) (Rf.keep E W r fun a m => n a (List.mem_cons_of_mem _ m))
  | _, _, _, .insF f c h r, n => .insF (E.mono _ f) c (E.stay h (W.nin f) fun z => z) (Rf.keep E W r n)
  | _, _, _, .excF f f2 c h h2 r, n => .excF (E.mono _ f) (E.mono _ f2) c (E.stay h (W.nin f) fun z => z) (E.stay h2 (W.nin f2) fun z => z) (Rf.keep E W r n)
  | _, _, _, .excN f c h, n => .excN (E.mono _ f) c (E.stay h (W.nin f) fun z => z)
theorem Rs.keep (E : Ext F H g F1 H1 g1) (W : Wd F H g) : ∀ {v : List V} {d : List D} {fp : List Addr}, Rs G F H v d fp → (∀ a ∈ fp, a ∉ g ∧ ¬ F a) → Rs G F1 H1 v d fp
  | _, _, _, .nil, _ => .nil
  | _, _, _, .cons r t, n => .cons (R.keep E W r fun a m => n a (List.mem_append_left _ m)) (Rs.keep E W t fun a m => n a (List.mem_append_right _ m))
theorem Rf.keep (E : Ext F H g F1 H1 g1) (W : Wd F H g) : ∀ {v : List (Str × V)} {d : List (Str × D)} {fp : List Addr}, Rf G F H v d fp → (∀ a ∈ fp, a ∉ g ∧ ¬ F a) → Rf G F1 H1 v d fp
  | _, _, _, .nil, _ => .nil
  | _, _, _, .cons r t, n => .cons (R.keep E W r fun a m => n a (List.mem_append_left _ m)) (Rf.keep E W t fun a m => n a (List.mem_append_right _ m))
theorem Re.keep (E : Ext F H g F1 H1 g1) (W : Wd F H g) : ∀ {v : List (DKey × V)} {d : List (DKey × D)} {fp : List Addr}, Re G F H v d fp → (∀ a ∈ fp, a ∉ g ∧ ¬ F a) → Re G F1 H1 v d fp
  | _, _, _, .nil, _ => .nil
  | _, _, _, .cons r t, n => .cons (R.keep E W r fun a m => n a (List.mem_append_left _ m)) (Re.keep E W t fun a m => n a (List.mem_append_right _ m))
end

theorem SqLF.mono {a : Addr} {vs : List V} (h : SqLF G.K F H a vs) (m : ∀ a, F a → F1 a) : SqLF G.K F1 H a vs := by
  rcases h with ⟨f, h⟩ | h
  · exact .inl ⟨m a f, h⟩
  · exact .inr h
mutual
theorem R.mono (m : ∀ a, F a → F1 a) : ∀ {v : V} {d : D} {fp : List Addr}, R G F H v d fp → R G F1 H v d fp
  | _, _, _, .non => .non
  | _, _, _, .bl b => .bl b
  | _, _, _, .int i => .int i
  | _, _, _, .str s => .str s
  | _, _, _, .ref a => .ref a
  | _, _, _, .ty n => .ty n
  | _, _, _, .tup h r => .tup h (Rs.mono m r)
  | _, _, _, .lstO h r => .lstO h (Rs.mono m r)
  | _, _, _, .lstF h r => .lstF (SqLF.mono h m) (Rs.mono m r)
  | _, _, _, .ditO h r k z => .ditO h (Re.mono m r) k z
  | _, _, _, .ditF f h r k z => .ditF (m _ f) h (Re.mono m r) k z
  | _, _, _, .dicO h r k => .dicO h (Re.mono m r) k
  | _, _, _, .dicF f h r k => .dicF (m _ f) h (Re.mono m r) k
  | _, _, _, .insO c h r => .insO c h (Rf.mono m r)
  | _, _, _, .insF f c h r => .insF (m _ f) c h (Rf.mono m r)
  | _, _, _, .excF f f2 c h h2 r => .excF (m _ f) (m _ f2) c h h2 (Rf.mono m r)
  | _, _, _, .excN f c h => .excN (m _ f) c h
theorem Rs.mono (m : ∀ a, F a → F1 a) : ∀ {v : List V} {d : List D} {fp : List Addr}, Rs G F H v d fp → Rs G F1 H v d fp
  | _, _, _, .nil => .nil
  | _, _, _, .cons r t => .cons (R.mono m r) (Rs.mono m t)
theorem Rf.mono (m : ∀ a, F a → F1 a) : ∀ {v : List (Str × V)} {d : List (Str × D)} {fp : List Addr}, Rf G F H v d fp → Rf G F1 H v d fp
  | _, _, _, .nil => .nil
  | _, _, _, .cons r t => .cons (R.mono m r) (Rf.mono m t)
theorem Re.mono (m : ∀ a, F a → F1 a) : ∀ {v : List (DKey × V)} {d : List (DKey × D)} {fp : List Addr}, Re G F H v d fp → Re G F1 H v d fp
  | _, _, _, .nil => .nil
  | _, _, _, .cons r t => .cons (R.mono m r) (Re.mono m t)
end

/-! ### the slots -/
abbrev Env := List (Option D)
inductive EnvR (G : Gam) (F : Addr → Prop) (H : Hp) : L2.St → Env → List Addr → Prop
  | nil : EnvR G F H [] [] []
  | skip {o σ ρ fp} : EnvR G F H σ ρ fp → EnvR G F H (o :: σ) (none :: ρ) fp
  | cons {v d σ ρ f1 f2} : R G F H v d f1 → EnvR G F H σ ρ f2 → EnvR G F H (some v :: σ) (some d :: ρ) (f1 ++ f2)
theorem EnvR.keep (E : Ext F H g F1 H1 g1) (W : Wd F H g) {σ : L2.St} {ρ : Env} {fp : List Addr} (h : EnvR G F H σ ρ fp) : (∀ a ∈ fp, a ∉ g ∧ ¬ F a) → EnvR G F1 H1 σ ρ fp := by
  induction h with
  | nil => intro _; exact .nil
  | skip _ ih => intro n; exact .skip (ih n)
  | cons r _ ih => intro n; exact .cons (r.keep E W fun a m => n a (List.mem_append_left _ m)) (ih fun a m => n a (List.mem_append_right _ m))
theorem EnvR.len {σ : L2.St} {ρ : Env} {fp : List Addr} (h : EnvR G F H σ ρ fp) : σ.length = ρ.length := by
  induction h with
  | nil => rfl
  | skip _ ih => simp [ih]
  | cons _ _ ih => simp [ih]
/-- a slot that is known: its value, its part of the footprint; it may be given another value -/
theorem EnvR.get {σ : L2.St} {ρ : Env} {fp : List Addr} (h : EnvR G F H σ ρ fp) : ∀ {i : Nat} {d : D}, ρ[i]? = some (some d) → ∃ v f1 f2, σ[i]? = some (some v) ∧ R G F H v d f1 ∧ fp.Perm (f1 ++ f2) ∧ EnvR G F H σ (ρ.set i none) f2 := by
  induction h with
  | nil => intro i d e; simp at e
  | @skip o σ ρ fp t ih =>
    intro i d e
    cases i with
    | zero => simp at e
    | succ i =>
      obtain ⟨v, f1, f2, e1, r, p, q⟩ := ih (i := i) (d := d) (by simpa using e)
      exact ⟨v, f1, f2, by simpa using e1, r, p, .skip q⟩
  | @cons v d' σ ρ g1 g2 r t ih =>
    intro i d e
    cases i with
    | zero =>
      simp at e; subst e
      exact ⟨v, g1, g2, rfl, r, List.Perm.refl _, .skip t⟩
    | succ i =>
      obtain ⟨v', f1, f2, e1, r1, p, q⟩ := ih (i := i) (d := d) (by simpa using e)
      refine ⟨v', f1, g1 ++ f2, by simpa using e1, r1, ?_, .cons r q⟩
      refine (List.Perm.append_left g1 p).trans ?_
      rw [← List.append_assoc, ← List.append_assoc]
      exact List.Perm.append_right f2 List.perm_append_comm
theorem EnvR.put {σ : L2.St} {ρ : Env} {fp f1 : List Addr} {v : V} {d : D} {i : Nat} (h : EnvR G F H σ ρ fp) : ρ[i]? = some none → R G F H v d f1 → ∃ g, g.Perm (f1 ++ fp) ∧ EnvR G F H (σ.set i (some v)) (ρ.set i (some d)) g := by
  induction h generalizing i with
  | nil => intro e; simp at e
  | @skip o σ ρ fp t ih =>
    intro e r
    cases i with
    | zero => exact ⟨f1 ++ fp, List.Perm.refl _, .cons r t⟩
    | succ i =>
      obtain ⟨g, p, q⟩ := ih (i := i) (by simpa using e) r
      exact ⟨g, p, .skip q⟩
  | @cons v' d' σ ρ g1 g2 r' t ih =>
    intro e r
    cases i with
    | zero => simp at e
    | succ i =>
      obtain ⟨g, p, q⟩ := ih (i := i) (by simpa using e) r
      refine ⟨g1 ++ g, ?_, .cons r' q⟩
      refine (List.Perm.append_left g1 p).trans ?_
      rw [← List.append_assoc, ← List.append_assoc]
      exact List.Perm.append_right g2 List.perm_append_comm
/-- forgetting a slot -/
theorem EnvR.drop {σ : L2.St} {ρ : Env} {fp : List Addr} (h : EnvR G F H σ ρ fp) (i : Nat) : ∃ g, g.Sublist fp ∧ EnvR G F H σ (ρ.set i none) g := by
  induction h generalizing i with
  | nil => exact ⟨[], List.Sublist.refl _, .nil⟩
  | @skip o σ ρ fp t ih =>
    cases i with
    | zero => exact ⟨fp, List.Sublist.refl _, .skip t⟩
    | succ i =>
      obtain ⟨g, p, q⟩ := ih i
      exact ⟨g, p, .skip q⟩
  | @cons v' d' σ ρ g1 g2 r' t ih =>
    cases i with
    | zero => exact ⟨g2, List.sublist_append_right _ _, .skip t⟩
    | succ i =>
      obtain ⟨g, p, q⟩ := ih i
      exact ⟨g1 ++ g, List.Sublist.append_left p g1, .cons r' q⟩
/-- a slot not known may hold anything -/
theorem EnvR.any {σ : L2.St} {ρ : Env} {fp : List Addr} (h : EnvR G F H σ ρ fp) (i : Nat) (o : Option V) : ρ[i]? = some none → EnvR G F H (σ.set i o) ρ fp := by
  induction h generalizing i with
  | nil => intro _; exact .nil
  | skip t ih =>
    intro e
    cases i with
    | zero => exact .skip t
    | succ i => exact .skip (ih i (by simpa using e))
  | cons r t ih =>
    intro e
    cases i with
    | zero => simp at e
    | succ i => exact .cons r (ih i (by simpa using e))
end
end DL

set_option Elab.async false
set_option linter.all false
set_option maxRecDepth 100000
set_option maxHeartbeats 4000000
/-! DL2: meanings, judgements, operands. -/
namespace DL
open PySem PySem.Spec PyProof.Rows L2

structure Exn where
  C : Str
  fs : List (Str × D)
inductive Res (α : Type) where
  | ok (a : α) (ρ : Env)
  | err (e : Exn) (ρ : Env)
  | stuck
def Res.bind {α β : Type} (r : Res α) (k : α → Env → Res β) : Res β :=
  match r with
  | .ok a ρ => k a ρ
  | .err e ρ => .err e ρ
  | .stuck => .stuck
@[simp] theorem Res.bind_ok {α β : Type} (a : α) (ρ : Env) (k : α → Env → Res β) : (Res.ok a ρ).bind k = k a ρ := rfl
@[simp] theorem Res.bind_err {α β : Type} (e : Exn) (ρ : Env) (k : α → Env → Res β) : (Res.err e ρ).bind k = .err e ρ := rfl
@[simp] theorem Res.bind_stuck {α β : Type} (k : α → Env → Res β) : (Res.stuck).bind k = .stuck := rfl

mutual
/-- nothing within is owned -/
def solid : D → Bool
  | .tup xs => solids xs
  | .lst u xs => !u && solids xs
  | .dic u kvs => !u && solidE kvs
  | .ins u _ fs => !u && solidF fs
  | .set _ => false
  | _ => true
def solids : List D → Bool
  | [] => true
  | x :: xs => solid x && solids xs
def solidE : List (DKey × D) → Bool
  | [] => true
  | (_, x) :: xs => solid x && solidE xs
def solidF : List (Str × D) → Bool
  | [] => true
  | (_, x) :: xs => solid x && solidF xs
end
mutual
/-- the same, shared from now on -/
def frz : D → D
  | .tup xs => .tup (frzs xs)
  | .lst _ xs => .lst false (frzs xs)
  | .dic _ kvs => .dic false (frzE kvs)
  | .ins _ C fs => .ins false C (frzF fs)
  | d => d
def frzs : List D → List D
  | [] => []
  | x :: xs => frz x :: frzs xs
def frzE : List (DKey × D) → List (DKey × D)
  | [] => []
  | (k, x) :: xs => (k, frz x) :: frzE xs
def frzF : List (Str × D) → List (Str × D)
  | [] => []
  | (k, x) :: xs => (k, frz x) :: frzF xs
end
mutual
theorem frz_solid : ∀ d : D, solid d = true → frz d = d
  | .tup xs, h => by rw [frz, frzs_solid xs (by simpa [solid] using h)]
  | .lst u xs, h => by
    simp only [solid, Bool.and_eq_true, Bool.not_eq_true'] at h
    rw [frz, frzs_solid xs h.2, h.1]
  | .dic u xs, h => by
    simp only [solid, Bool.and_eq_true, Bool.not_eq_true'] at h
    rw [frz, frzE_solid xs h.2, h.1]
  | .ins u C xs, h => by
    simp only [solid, Bool.and_eq_true, Bool.not_eq_true'] at h
    rw [frz, frzF_solid xs h.2, h.1]
  | .set _, h => by simp [solid] at h
  | .non, _ => rfl
  | .bl _, _ => rfl
  | .int _, _ => rfl
  | .str _, _ => rfl
  | .exc _ _, _ => rfl
  | .ref _, _ => rfl
  | .ty _, _ => rfl
theorem frzs_solid : ∀ d : List D, solids d = true → frzs d = d
  | [], _ => rfl
  | x :: xs, h => by
    simp only [solids, Bool.and_eq_true] at h
    rw [frzs, frz_solid x h.1, frzs_solid xs h.2]
theorem frzE_solid : ∀ d : List (DKey × D), solidE d = true → frzE d = d
  | [], _ => rfl
  | (k, x) :: xs, h => by
    simp only [solidE, Bool.and_eq_true] at h
    rw [frzE, frz_solid x h.1, frzE_solid xs h.2]
theorem frzF_solid : ∀ d : List (Str × D), solidF d = true → frzF d = d
  | [], _ => rfl
  | (k, x) :: xs, h => by
    simp only [solidF, Bool.and_eq_true] at h
    rw [frzF, frz_solid x h.1, frzF_solid xs h.2]
end
theorem frzE_keys : ∀ kvs : List (DKey × D), (frzE kvs).map (·.1) = kvs.map (·.1)
  | [] => rfl
  | (k, x) :: xs => by simp [frzE, frzE_keys xs]

theorem frzE_ne : ∀ {kvs : List (DKey × D)}, kvs ≠ [] → frzE kvs ≠ []
  | [], h => absurd rfl h
  | (k, x) :: xs, _ => by simp [frzE]

section
variable {G : Gam} {F F1 F2 : Addr → Prop} {H H1 H2 : Hp} {fp fp1 fp2 g g1 g2 : List Addr}
mutual
theorem R.solid0 : ∀ {v : V} {d : D} {fp : List Addr}, R G F H v d fp → solid d = true → fp = []
  | _, _, _, .non, _ => rfl
  | _, _, _, .bl b, _ => rfl
  | _, _, _, .int i, _ => rfl
  | _, _, _, .str s, _ => rfl
  | _, _, _, .ref a, _ => rfl
  | _, _, _, .ty n, _ => rfl
  | _, _, _, .tup h r, s => Rs.solid0 r (by simpa [solid] using s)
  | _, _, _, .lstO h r, s => by simp [solid] at s
  | _, _, _, .lstF h r, s => rfl
  | _, _, _, .dicO h r k, s => by simp [solid] at s
  | _, _, _, .dicF f h r k, s => rfl
  | _, _, _, .ditO h r k z, s => by simp [solid] at s
  | _, _, _, .ditF f h r k z, s => rfl
  | _, _, _, .insO c h r, s => by simp [solid] at s
  | _, _, _, .insF f c h r, s => rfl
  | _, _, _, .excF _ _ _ _ _ _, s => rfl
  | _, _, _, .excN _ _ _, s => rfl
theorem Rs.solid0 : ∀ {v : List V} {d : List D} {fp : List Addr}, Rs G F H v d fp → solids d = true → fp = []
  | _, _, _, .nil, _ => rfl
  | _, _, _, .cons r t, s => by
    simp only [solids, Bool.and_eq_true] at s
    rw [R.solid0 r s.1, Rs.solid0 t s.2]; rfl
end
/-- all of fp is shared from now on -/
def FF (F : Addr → Prop) (fp : List Addr) : Addr → Prop := fun a => F a ∨ a ∈ fp
theorem Wd.freeze (W : Wd F H (fp ++ g)) : Wd (FF F fp) H g where
  nodup := W.right.nodup
  ff := fun a h z => z.elim (W.right.ff a h) fun q => W.apart a q h
  own := W.right.own
  ft := fun a z => z.elim (W.ft a) fun q => by
    obtain ⟨o, e, _⟩ := W.left.own a q
    rw [e]; intro z; cases z
theorem Ext.freeze (W : Wd F H (fp ++ g)) : Ext F H (fp ++ g) (FF F fp) H g where
  mono := fun a h => .inl h
  frame := fun a o h _ => .inl h
  old := fun a h => .inl (List.mem_append_right _ h)
  fz := fun a h => h.elim .inl fun q => .inr (.inl (List.mem_append_left _ q))
  nn := fun a h => h
mutual
theorem R.freeze : ∀ {v : V} {d : D} {fp g : List Addr}, R G F H v d fp → (∀ a ∈ fp, a ∈ g) → R G (FF F g) H v (frz d) []
  | _, _, _, _, .non, _ => .non
  | _, _, _, _, .bl b, _ => .bl b
  | _, _, _, _, .int i, _ => .int i
  | _, _, _, _, .str s, _ => .str s
  | _, _, _, _, .ref a, _ => .ref a
  | _, _, _, _, .ty n, _ => .ty n
  | _, _, _, _, .tup h r, n => .tup h (Rs.freeze r n)
  | _, _, _, _, .lstO h r, n => .lstF (.inl ⟨.inr (n _ List.mem_cons_self), .inl h⟩) (Rs.freeze r fun a m => n a (List.mem_cons_of_mem _ m))
  | _, _, _, _, .lstF h r, n => .lstF (SqLF.mono h fun _ z => .inl z) (Rs.freeze r n)
  | _, _, _, _, .ditO h r k z, n => .ditF (.inr (n _ List.mem_cons_self)) (.inl h) (Re.freeze r fun a m => n a (List.mem_cons_of_mem _ m)) (by rw [frzE_keys]; exact k) (frzE_ne z)
  | _, _, _, _, .ditF f h r k z, n => .ditF (.inl f) h (Re.freeze r n) (by rw [frzE_keys]; exact k) (frzE_ne z)
  | _, _, _, _, .dicO h r k, n => .dicF (.inr (n _ List.mem_cons_self)) (.inl h) (Re.freeze r fun a m => n a (List.mem_cons_of_mem _ m)) (by rw [frzE_keys]; exact k)
  | _, _, _, _, .dicF f h r k, n => .dicF (.inl f) h (Re.freeze r n) (by rw [frzE_keys]; exact k)
  | _, _, _, _, .insO c h r, n => .insF (.inr (n _ List.mem_cons_self)) c h (Rf.freeze r fun a m => n a (List.mem_cons_of_mem _ m))
  | _, _, _, _, .insF f c h r, n => .insF (.inl f) c h (Rf.freeze r n)
  | _, _, _, _, .excF f f2 c h h2 r, n => .excF (.inl f) (.inl f2) c h h2 (Rf.mono (fun _ z => .inl z) r)
  | _, _, _, _, .excN f c h, n => .excN (.inl f) c h
theorem Rs.freeze : ∀ {v : List V} {d : List D} {fp g : List Addr}, Rs G F H v d fp → (∀ a ∈ fp, a ∈ g) → Rs G (FF F g) H v (frzs d) []
  | _, _, _, _, .nil, _ => .nil
  | _, _, _, _, .cons r t, n => .cons (f1 := []) (f2 := []) (R.freeze r fun a m => n a (List.mem_append_left _ m)) (Rs.freeze t fun a m => n a (List.mem_append_right _ m))
theorem Rf.freeze : ∀ {v : List (Str × V)} {d : List (Str × D)} {fp g : List Addr}, Rf G F H v d fp → (∀ a ∈ fp, a ∈ g) → Rf G (FF F g) H v (frzF d) []
  | _, _, _, _, .nil, _ => .nil
  | _, _, _, _, .cons r t, n => .cons (f1 := []) (f2 := []) (R.freeze r fun a m => n a (List.mem_append_left _ m)) (Rf.freeze t fun a m => n a (List.mem_append_right _ m))
theorem Re.freeze : ∀ {v : List (DKey × V)} {d : List (DKey × D)} {fp g : List Addr}, Re G F H v d fp → (∀ a ∈ fp, a ∈ g) → Re G (FF F g) H v (frzE d) []
  | _, _, _, _, .nil, _ => .nil
  | _, _, _, _, .cons r t, n => .cons (f1 := []) (f2 := []) (R.freeze r fun a m => n a (List.mem_append_left _ m)) (Re.freeze t fun a m => n a (List.mem_append_right _ m))
end
theorem EnvR.mono {σ : L2.St} {ρ : Env} {fp : List Addr} (m : ∀ a, F a → F1 a) (h : EnvR G F H σ ρ fp) : EnvR G F1 H σ ρ fp := by
  induction h with
  | nil => exact .nil
  | skip _ ih => exact .skip ih
  | cons r _ ih => exact .cons (r.mono m) ih
theorem set_same {α : Type} : ∀ {l : List α} {i : Nat} {a : α}, l[i]? = some a → l.set i a = l
  | [], _, _, h => by simp at h
  | x :: l, 0, a, h => by simp at h; simp [h]
  | x :: l, i + 1, a, h => by
    have := set_same (l := l) (i := i) (a := a) (by simpa using h)
    simp [this]
theorem set_get_none {ρ : Env} {i : Nat} {d : D} (h : ρ[i]? = some (some d)) : (ρ.set i none)[i]? = some none := by
  obtain ⟨h1, _⟩ := List.getElem?_eq_some_iff.mp h
  simp [h1]
theorem EnvR.fill {σ : L2.St} {ρ : Env} {fp f1 : List Addr} {v : V} {d : D} {i : Nat} (h : EnvR G F H σ ρ fp) (e : σ[i]? = some (some v)) (e2 : ρ[i]? = some none) (r : R G F H v d f1) : ∃ g, g.Perm (f1 ++ fp) ∧ EnvR G F H σ (ρ.set i (some d)) g := by
  obtain ⟨g, p, q⟩ := h.put e2 r
  rw [set_same e] at q
  exact ⟨g, p, q⟩
theorem Ext.wide (E : Ext F H fp F1 H1 fp1) (m : ∀ a ∈ fp, a ∈ g) : Ext F H g F1 H1 fp1 := ⟨E.mono, fun a o h n => E.frame a o h fun z => n (m a z), fun a h => (E.old a h).elim (fun q => .inl (m a q)) .inr, fun a h => (E.fz a h).elim .inl fun q => q.elim (fun q => .inr (.inl (m a q))) fun q => .inr (.inr q), E.nn⟩
theorem Ext.less (E : Ext F H fp F1 H1 fp1) (m : ∀ a ∈ g, a ∈ fp1) : Ext F H fp F1 H1 g := ⟨E.mono, E.frame, fun a h => E.old a (m a h), E.fz, E.nn⟩
theorem Ext.perm0 (E : Ext F H fp F1 H1 fp1) (p : fp.Perm g) : Ext F H g F1 H1 fp1 := E.wide fun _ h => p.mem_iff.mp h
end

/-! ### judgements -/
abbrev gam (X : Cx) : Gam := ⟨X.prog, X.w, X.K, X.mg⟩
/-- an exception as it lies in the air -/
def ExcR (G : Gam) (F : Addr → Prop) (H : Hp) (c : Value) (d : Option Addr) (e : Exn) : Prop :=
  ∃ Ca, c = .ref Ca ∧ G.mg e.C = some (.ref Ca) ∧ match d with
    | none => e.fs = []
    | some dx => ∃ hfs, H dx = some (.xd hfs) ∧ Rf G F H hfs e.fs []
def PostE (W : WX) (G : Gam) (F : Addr → Prop) (H : Hp) (fp : List Addr) (σ : L2.St) (e : Exn) (ρ' : Env) : Prop :=
  ∀ c d F' H' fp', Ext F H fp F' H' fp' → Wd F' H' fp' → EnvR G F' H' σ ρ' fp' → ExcR G F' H' c d e → W c d σ H'
/-- what must hold behind r -/
def Post {α β : Type} (Rel : (Addr → Prop) → Hp → β → α → List Addr → Prop) (W : WX) (G : Gam) (F : Addr → Prop) (H : Hp) (fp : List Addr) (σ : L2.St) (r : Res α) (Q : β → Hp → Prop) : Prop :=
  match r with
  | .ok d ρ' => ∀ v F' H' fv fp', Ext F H fp F' H' (fv ++ fp') → Wd F' H' (fv ++ fp') → EnvR G F' H' σ ρ' fp' → Rel F' H' v d fv → Q v H'
  | .err e ρ' => PostE W G F H fp σ e ρ'
  | .stuck => False
/-- some state is known, and behind f from there Q holds -/
def WpG {α β : Type} (Rel : (Addr → Prop) → Hp → β → α → List Addr → Prop) (G : Gam) (W : WX) (f : Env → Res α) (σ : L2.St) (H : Hp) (Q : β → Hp → Prop) : Prop :=
  ∃ F ρ fp, Wd F H fp ∧ EnvR G F H σ ρ fp ∧ Post Rel W G F H fp σ (f ρ) Q
abbrev WpE (G : Gam) (W : WX) (f : Env → Res D) : TE := fun σ H Q => WpG (R G) G W f σ H Q
def RelB : (Addr → Prop) → Hp → Bool → Bool → List Addr → Prop := fun _ _ a b fv => a = b ∧ fv = []
abbrev WpT (G : Gam) (W : WX) (f : Env → Res Bool) : TT := fun σ H Q => WpG RelB G W f σ H Q
structure DE (X : Cx) (W : WX) (e : Expr) (f : Env → Res D) : Prop where
  pe : PE X e (WpE (gam X) W f)
structure DT (X : Cx) (W : WX) (e : Expr) (f : Env → Res Bool) : Prop where
  pt : PT X e (WpT (gam X) W f)
theorem _root_.L2.PE.weak {X : Cx} {e : Expr} {t t' : TE} (h : PE X e t) (m : ∀ σ H Q, t' σ H Q → t σ H Q) : PE X e t' := ⟨fun pins s σ H Q I q => h.run pins s σ H Q I (m σ H Q q)⟩
theorem _root_.L2.PT.weak {X : Cx} {e : Expr} {t t' : TT} (h : PT X e t) (m : ∀ σ H Q, t' σ H Q → t σ H Q) : PT X e t' := ⟨fun pins s σ H Q I q => h.run pins s σ H Q I (m σ H Q q)⟩
theorem _root_.L2.PS.weak {X : Cx} {e : Stmt} {t t' : TS} (h : PS X e t) (m : ∀ D σ H, t' D σ H → t D σ H) : PS X e t' := ⟨fun pins s σ H D I q => h.run pins s σ H D I (m D σ H q)⟩
theorem _root_.L2.PSs.weak {X : Cx} {e : List Stmt} {t t' : TS} (h : PSs X e t) (m : ∀ D σ H, t' D σ H → t D σ H) : PSs X e t' := ⟨fun pins s σ H D I q => h.run pins s σ H D I (m D σ H q)⟩

section
variable {G : Gam} {W : WX} {F F1 F2 : Addr → Prop} {H H1 H2 : Hp} {fp fp1 fp2 g g1 g2 : List Addr} {σ : L2.St} {ρ : Env}
/-- an exception behind a first part -/
theorem PostE.behind {e : Exn} {ρ' : Env} (p : PostE W G F H fp σ e ρ') (E : Ext F H fp F1 H1 (g ++ fp1)) (W1 : Wd F1 H1 (g ++ fp1)) : PostE W G F1 H1 fp1 σ e ρ' := fun c d F' H' fp' E' W' R' x =>
  p c d F' H' fp' (((E.trans (E'.beside W1)).less fun a m => List.mem_append_right _ m)) W' R' x

/-! ### operands -/
inductive Opd where
  | nm (i : Nat)
  | ex (f : Env → Res D)
def Opd.te (G : Gam) (W : WX) : Opd → TE
  | .nm i => tVar i
  | .ex f => WpE G W f
def teL (G : Gam) (W : WX) : List Opd → TA
  | [] => tNil
  | o :: os => tCons (o.te G W) (teL G W os)
/-- first what is reckoned, from the left -/
def evalT : List Opd → Env → Res (List (Option D))
  | [], ρ => .ok [] ρ
  | .nm i :: os, ρ => match ρ[i]? with
    | some (some _) => (evalT os ρ).bind fun ts ρ' => .ok (none :: ts) ρ'
    | _ => .stuck
  | .ex f :: os, ρ => (f ρ).bind fun d ρ1 => (evalT os ρ1).bind fun ts ρ' => .ok (some d :: ts) ρ'
/-- then the names as they stand -/
def fillO : List Opd → List (Option D) → Env → Option (List D)
  | [], [], _ => some []
  | .nm i :: os, none :: ts, ρ => match ρ[i]?, fillO os ts ρ with
    | some (some d), some ds => some (d :: ds)
    | _, _ => none
  | .ex _ :: os, some d :: ts, ρ => match fillO os ts ρ with
    | some ds => some (d :: ds)
    | none => none
  | _, _, _ => none
def evalO (os : List Opd) (ρ : Env) : Res (List D) := (evalT os ρ).bind fun ts ρ' => match fillO os ts ρ' with
  | some ds => .ok ds ρ'
  | none => .stuck
/-- the reckoned ones as they lie; of names the values -/
inductive OpsT (G : Gam) (F : Addr → Prop) (H : Hp) (σ : L2.St) : List Opd → List V → List (Option D) → List Addr → Prop
  | nil : OpsT G F H σ [] [] [] []
  | nm {i v os vs ts fp} : σ[i]? = some (some v) → OpsT G F H σ os vs ts fp → OpsT G F H σ (.nm i :: os) (v :: vs) (none :: ts) fp
  | ex {f v d os vs ts f1 f2} : R G F H v d f1 → OpsT G F H σ os vs ts f2 → OpsT G F H σ (.ex f :: os) (v :: vs) (some d :: ts) (f1 ++ f2)
theorem OpsT.keep (E : Ext F H g F1 H1 g1) (W1 : Wd F H g) {os : List Opd} {vs : List V} {ts : List (Option D)} {fp : List Addr} (h : OpsT G F H σ os vs ts fp) : (∀ a ∈ fp, a ∉ g ∧ ¬ F a) → OpsT G F1 H1 σ os vs ts fp := by
  induction h with
  | nil => intro _; exact .nil
  | nm e _ ih => intro n; exact .nm e (ih n)
  | ex r _ ih => intro n; exact .ex (r.keep E W1 fun a m => n a (List.mem_append_left _ m)) (ih fun a m => n a (List.mem_append_right _ m))

theorem evalT_sound : ∀ (os : List Opd) (F : Addr → Prop) (H : Hp) (ρ : Env) (fp : List Addr) (Q : List V → Hp → Prop), Wd F H fp → EnvR G F H σ ρ fp →
    Post (fun F' H' vs ts fv => OpsT G F' H' σ os vs ts fv) W G F H fp σ (evalT os ρ) Q → teL G W os σ H Q
  | [], F, H, ρ, fp, Q, w, r, p => p [] F H [] fp (Ext.refl w) w r .nil
  | .nm i :: os, F, H, ρ, fp, Q, w, r, p => by
    unfold evalT at p
    split at p
    · rename_i d e
      obtain ⟨v, f1, f2, e1, _⟩ := r.get e
      refine ⟨v, e1, evalT_sound os F H ρ fp _ w r ?_⟩
      cases h : evalT os ρ with
      | ok ts ρ' =>
        rw [h] at p
        exact fun vs F' H' fv fp' E1 W1 R1 T1 => p (v :: vs) F' H' fv fp' E1 W1 R1 (.nm e1 T1)
      | err e ρ' => rw [h] at p; exact p
      | stuck => rw [h] at p; exact p
    · exact p.elim
  | .ex f :: os, F, H, ρ, fp, Q, w, r, p => by
    unfold evalT at p
    refine ⟨F, ρ, fp, w, r, ?_⟩
    cases h : f ρ with
    | ok d ρ1 =>
      rw [h] at p
      intro v F1 H1 fv fp1 E1 W1 R1 r1
      refine evalT_sound os F1 H1 ρ1 fp1 _ W1.right R1 ?_
      cases h2 : evalT os ρ1 with
      | ok ts ρ2 =>
        simp only [Res.bind_ok, h2] at p
        intro vs F2 H2 fv2 fp2 E2 W2 R2 T2
        have B := E2.beside W1
        have WB := W1.beside E2 W2
        rw [← List.append_assoc] at B WB
        exact p (v :: vs) F2 H2 (fv ++ fv2) fp2 (E1.trans B) WB R2 (.ex (r1.keep E2 W1.right W1.apart2) T2)
      | err e ρ2 =>
        simp only [Res.bind_ok, h2] at p
        exact PostE.behind p E1 W1
      | stuck =>
        simp only [Res.bind_ok, h2] at p
        exact p
    | err e ρ1 => rw [h] at p; exact p
    | stuck => rw [h] at p; exact p

/-- what is read: each is told, by some part of fp -/
inductive Rds (G : Gam) (F : Addr → Prop) (H : Hp) (fp : List Addr) : List V → List D → Prop
  | nil : Rds G F H fp [] []
  | cons {v d vs ds f1} : R G F H v d f1 → (∀ a ∈ f1, a ∈ fp) → Rds G F H fp vs ds → Rds G F H fp (v :: vs) (d :: ds)
theorem fillO_sound : ∀ {os : List Opd} {vs : List V} {ts : List (Option D)} {ft fp : List Addr} {ds : List D}, OpsT G F H σ os vs ts ft → EnvR G F H σ ρ fp → fillO os ts ρ = some ds →
    (∀ a ∈ ft, a ∈ g) → (∀ a ∈ fp, a ∈ g) → Rds G F H g vs ds
  | _, _, _, _, _, ds, .nil, r, h, m1, m2 => by simp only [fillO, Option.some.injEq] at h; subst h; exact .nil
  | _, _, _, _, _, ds, .nm (i := i) e t, r, h, m1, m2 => by
    unfold fillO at h
    split at h
    · rename_i d ds' e1 e2
      simp only [Option.some.injEq] at h
      subst h
      obtain ⟨v', f1, f2, e3, r1, p, _⟩ := r.get e1
      rw [e] at e3
      cases e3
      exact .cons r1 (fun a m => m2 a (p.mem_iff.mpr (List.mem_append_left _ m))) (fillO_sound t r e2 m1 m2)
    · cases h
  | _, _, _, _, _, ds, .ex r1 t, r, h, m1, m2 => by
    unfold fillO at h
    split at h
    · rename_i ds' e2
      simp only [Option.some.injEq] at h
      subst h
      exact .cons r1 (fun a m => m1 a (List.mem_append_left _ m)) (fillO_sound t r e2 (fun a m => m1 a (List.mem_append_right _ m)) m2)
    · cases h

/-! ### an operation that changes nothing that stands -/
/-- from what is read a new value comes, on new objects alone -/
def OpS (G : Gam) (r : List V → Hp → VK → Prop) (op : List D → Option D) : Prop :=
  ∀ (F : Addr → Prop) (H : Hp) (fp : List Addr) (vs : List V) (ds : List D) (d : D) (Q : VK), Wd F H fp → Rds G F H fp vs ds → op ds = some d →
    (∀ v F' H' fv, Ext F H [] F' H' fv → Wd F' H' fv → R G F' H' v d fv → Q v H') → r vs H Q
def pureOp (op : List D → Option D) (os : List Opd) : Env → Res D := fun ρ => (evalO os ρ).bind fun ds ρ' => match op ds with
  | some d => .ok d ρ'
  | none => .stuck
/-- beside what was made on new objects all is as it was -/
theorem fresh_beside {fw : List Addr} (E : Ext F1 H1 [] F2 H2 fw) (W2 : Wd F2 H2 fw) (W1 : Wd F1 H1 fp1) (R1 : EnvR G F1 H1 σ ρ fp1) : Ext F1 H1 fp1 F2 H2 (fw ++ fp1) ∧ Wd F2 H2 (fw ++ fp1) ∧ EnvR G F2 H2 σ ρ fp1 := by
  have W1' : Wd F1 H1 (fp1 ++ []) := by rw [List.append_nil]; exact W1
  have B := E.beside W1'
  have WB := W1'.beside E W2
  rw [List.append_nil] at B
  exact ⟨B.perm List.perm_append_comm, WB.perm List.perm_append_comm, R1.keep E W1'.right W1'.apart2⟩
theorem pureOp_sound {r : List V → Hp → VK → Prop} {op : List D → Option D} (o : OpS G r op) {os : List Opd} {Q : VK} (h : WpE G W (pureOp op os) σ H Q) : teL G W os σ H fun vs H' => r vs H' Q := by
  obtain ⟨F, ρ, fp, w, e, p⟩ := h
  refine evalT_sound os F H ρ fp _ w e ?_
  unfold pureOp evalO at p
  cases h : evalT os ρ with
  | ok ts ρ' =>
    simp only [h, Res.bind_ok] at p
    intro vs F1 H1 fv fp1 E1 W1 R1 T1
    cases h2 : fillO os ts ρ' with
    | none => simp only [h2, Res.bind_stuck] at p; exact p.elim
    | some ds =>
      simp only [h2, Res.bind_ok] at p
      cases h3 : op ds with
      | none => simp only [h3] at p; exact p.elim
      | some d =>
        simp only [h3] at p
        have rd := fillO_sound (g := fv ++ fp1) T1 R1 h2 (fun a m => List.mem_append_left _ m) (fun a m => List.mem_append_right _ m)
        refine o F1 H1 (fv ++ fp1) vs ds d Q W1 rd h3 fun v F2 H2 fw E2 W2 r2 => ?_
        obtain ⟨E3, W3, R3⟩ := fresh_beside E2 W2 W1.right R1
        exact p v F2 H2 fw fp1 ((E1.less fun a m => List.mem_append_right _ m).trans E3) W3 R3 r2
  | err e ρ' => simp only [h, Res.bind_err] at p; exact p
  | stuck => simp only [h, Res.bind_stuck] at p; exact p.elim
end
end DL

set_option Elab.async false
set_option linter.all false
set_option maxRecDepth 100000
set_option maxHeartbeats 4000000
/-! DL3: constants, names, displays, pure operations. -/
namespace DL
open PySem PySem.Spec PyProof.Rows L2 StX

section
variable {G : Gam} {W : WX} {F F1 F2 : Addr → Prop} {H H1 H2 : Hp} {fp fp1 fp2 g g1 g2 : List Addr} {σ : L2.St} {ρ : Env}
theorem Wd.nil (w : Wd F H fp) : Wd F H [] := ⟨List.nodup_nil, fun _ m => (nomatch m), fun _ m => (nomatch m), w.ft⟩
/-- a new object -/
theorem ext_new {p : Addr} {o : HO} (hp : H p = none) : Ext F H [] F (upd H p o) [] where
  mono := fun _ h => h
  frame := fun a u h _ => .inl (by rw [upd_ne (ne_of_none h hp)]; exact h)
  old := fun _ m => (nomatch m)
  fz := fun _ h => .inl h
  nn := fun a h => by
    by_cases e : a = p
    · subst e; rw [upd_same]; intro z; cases z
    · rw [upd_ne e]; exact h
theorem wd_new {p : Addr} {o : HO} (w : Wd F H fp) (hp : H p = none) : Wd F (upd H p o) [] :=
  ⟨List.nodup_nil, fun _ m => (nomatch m), fun _ m => (nomatch m), fun a h => (ext_new (F := F) hp).nn a (w.ft a h)⟩
theorem ext_own {p : Addr} {o : HO} (hp : H p = none) : Ext F H [] F (upd H p o) [p] :=
  ⟨fun _ h => h, (ext_new (F := F) hp).frame, fun a m => by rw [List.mem_singleton] at m; subst m; exact .inr hp, fun _ h => .inl h, (ext_new (F := F) hp).nn⟩
theorem wd_own {p : Addr} {o : HO} (w : Wd F H fp) (hp : H p = none) (ho : Ownable o) : Wd F (upd H p o) [p] where
  nodup := by simp
  ff := fun a m z => by rw [List.mem_singleton] at m; subst m; exact w.ft _ z hp
  own := fun a m => by rw [List.mem_singleton] at m; subst m; exact ⟨o, upd_same, ho⟩
  ft := (wd_new (o := o) w hp).ft

/-! ### constants, names -/
def kst (d : D) : Env → Res D := fun ρ => .ok d ρ
/-- a name's value, shared from now on -/
def cp (i : Nat) : Env → Res D := fun ρ => match ρ[i]? with
  | some (some d) => .ok (frz d) (ρ.set i (some (frz d)))
  | _ => .stuck
/-- a name's value, taken away -/
def mv (i : Nat) : Env → Res D := fun ρ => match ρ[i]? with
  | some (some d) => .ok d (ρ.set i none)
  | _ => .stuck
theorem set_none_set {ρ : Env} {i : Nat} {o : Option D} : (ρ.set i none).set i o = ρ.set i o := by simp
theorem wp_kst {d : D} {v : V} (hr : ∀ F H, R G F H v d []) {Q : VK} (h : WpE G W (kst d) σ H Q) : Q v H := by
  obtain ⟨F, ρ, fp, w, e, p⟩ := h
  exact p v F H [] fp (Ext.refl w) w e (hr F H)
theorem wp_cp {i : Nat} {Q : VK} (h : WpE G W (cp i) σ H Q) : tVar i σ H Q := by
  obtain ⟨F, ρ, fp, w, e, p⟩ := h
  unfold cp at p
  split at p
  · rename_i d hd
    obtain ⟨v, f1, f2, e1, r, pm, r2⟩ := e.get hd
    have w' := w.perm pm
    obtain ⟨g, pg, r3⟩ := (r2.mono fun _ z => Or.inl z).fill e1 (set_get_none hd) (r.freeze fun _ m => m)
    rw [set_none_set] at r3
    have W3 : Wd (FF F f1) H g := w'.freeze.perm pg.symm
    exact ⟨v, e1, p v (FF F f1) H [] g (((Ext.freeze w').perm0 pm.symm).perm pg.symm) W3 r3 (r.freeze fun _ m => m)⟩
  · exact p.elim
theorem wp_mv {i : Nat} {Q : VK} (h : WpE G W (mv i) σ H Q) : tVar i σ H Q := by
  obtain ⟨F, ρ, fp, w, e, p⟩ := h
  unfold mv at p
  split at p
  · rename_i d hd
    obtain ⟨v, f1, f2, e1, r, pm, r2⟩ := e.get hd
    exact ⟨v, e1, p v F H f1 f2 (((Ext.refl w).perm pm)) (w.perm pm) r2 r⟩
  · exact p.elim

/-! ### displays -/
abbrev WpA (G : Gam) (W : WX) (f : Env → Res (List D)) : TA := fun σ H Q => WpG (Rs G) G W f σ H Q
def itNil : Env → Res (List D) := fun ρ => .ok [] ρ
def itOne (f : Env → Res D) (g : Env → Res (List D)) : Env → Res (List D) := fun ρ => (f ρ).bind fun d ρ1 => (g ρ1).bind fun ds ρ2 => .ok (d :: ds) ρ2
/-- the items of what can be spread out -/
def elems : D → Option (List D)
  | .lst _ xs => if solids xs then some xs else none
  | .tup xs => if solids xs then some xs else none
  | _ => none
def itStar (f : Env → Res D) (g : Env → Res (List D)) : Env → Res (List D) := fun ρ => (f ρ).bind fun d ρ1 => match elems d with
  | some xs => (g ρ1).bind fun ds ρ2 => .ok (xs ++ ds) ρ2
  | none => .stuck
/-- a name that is spread out -/
def itStarN (i : Nat) (g : Env → Res (List D)) : Env → Res (List D) := fun ρ => match ρ[i]? with
  | some (some d) => match elems d with
    | some xs => (g ρ).bind fun ds ρ2 => .ok (xs ++ ds) ρ2
    | none => .stuck
  | _ => .stuck
theorem wpA_nil {Q : List V → Hp → Prop} (h : WpA G W itNil σ H Q) : tNil σ H Q := by
  obtain ⟨F, ρ, fp, w, e, p⟩ := h
  exact p [] F H [] fp (Ext.refl w) w e .nil
theorem wpA_one {f : Env → Res D} {k : Env → Res (List D)} {Q : List V → Hp → Prop} (h : WpA G W (itOne f k) σ H Q) : tCons (WpE G W f) (WpA G W k) σ H Q := by
  obtain ⟨F, ρ, fp, w, e, p⟩ := h
  refine ⟨F, ρ, fp, w, e, ?_⟩
  unfold itOne at p
  cases h1 : f ρ with
  | ok d ρ1 =>
    simp only [h1, Res.bind_ok] at p
    intro v F1 H1 fv fp1 E1 W1 R1 r1
    refine ⟨F1, ρ1, fp1, W1.right, R1, ?_⟩
    cases h2 : k ρ1 with
    | ok ds ρ2 =>
      simp only [h2, Res.bind_ok] at p
      intro vs F2 H2 fw fp2 E2 W2 R2 r2
      have B := E2.beside W1
      have WB := W1.beside E2 W2
      rw [← List.append_assoc] at B WB
      exact p (v :: vs) F2 H2 (fv ++ fw) fp2 (E1.trans B) WB R2 (.cons (r1.keep E2 W1.right W1.apart2) r2)
    | err e ρ2 =>
      simp only [h2, Res.bind_err] at p
      exact PostE.behind p E1 W1
    | stuck => simp only [h2, Res.bind_stuck] at p; exact p
  | err e ρ1 => simp only [h1, Res.bind_err] at p; exact p
  | stuck => simp only [h1, Res.bind_stuck] at p; exact p
theorem Rs.append : ∀ {v1 v2 : List V} {d1 d2 : List D} {f1 f2 : List Addr}, Rs G F H v1 d1 f1 → Rs G F H v2 d2 f2 → Rs G F H (v1 ++ v2) (d1 ++ d2) (f1 ++ f2)
  | _, _, _, _, _, _, .nil, r => r
  | _, _, _, _, _, _, .cons a t, r => by
    rw [List.append_assoc]
    exact .cons a (Rs.append t r)
/-- what is spread out, as it stands -/
theorem elems_R {v : V} {d : D} {xs : List D} (r : R G F H v d fp) (h : elems d = some xs) : ∃ p vs, v = V.ref p ∧ (SqT G.K H p vs ∨ SqL G.K H p vs) ∧ Rs G F H vs xs [] := by
  cases r with
  | tup hs hr =>
    simp only [elems] at h
    split at h
    · rename_i s
      cases h
      have e := Rs.solid0 hr s
      subst e
      exact ⟨_, _, rfl, .inl hs, hr⟩
    · cases h
  | lstO hs hr =>
    simp only [elems] at h
    split at h
    · rename_i s
      cases h
      have e := Rs.solid0 hr s
      subst e
      exact ⟨_, _, rfl, .inr (SqL.of hs), hr⟩
    · cases h
  | lstF hs hr =>
    simp only [elems] at h
    split at h
    · cases h
      exact ⟨_, _, rfl, .inr hs.sq, hr⟩
    · cases h
  | _ => cases h
theorem wpA_star {f : Env → Res D} {k : Env → Res (List D)} {Q : List V → Hp → Prop} (h : WpA G W (itStar f k) σ H Q) : tStar G.K (WpE G W f) (WpA G W k) σ H Q := by
  obtain ⟨F, ρ, fp, w, e, p⟩ := h
  refine ⟨F, ρ, fp, w, e, ?_⟩
  unfold itStar at p
  cases h1 : f ρ with
  | ok d ρ1 =>
    simp only [h1, Res.bind_ok] at p
    intro v F1 H1 fv fp1 E1 W1 R1 r1
    cases h3 : elems d with
    | none => simp only [h3] at p; exact p.elim
    | some xs =>
      simp only [h3] at p
      obtain ⟨q, vs, e1, hs, rs⟩ := elems_R r1 h3
      refine ⟨q, vs, e1, hs, F1, ρ1, fp1, W1.right, R1, ?_⟩
      cases h2 : k ρ1 with
      | ok ds ρ2 =>
        simp only [h2, Res.bind_ok] at p
        intro ws F2 H2 fw fp2 E2 W2 R2 r2
        exact p (vs ++ ws) F2 H2 fw fp2 ((E1.less fun a m => List.mem_append_right _ m).trans E2) W2 R2 (Rs.append (f1 := []) (rs.keep E2 W1.right fun _ m => nomatch m) r2)
      | err e ρ2 =>
        simp only [h2, Res.bind_err] at p
        exact PostE.behind p E1 W1
      | stuck => simp only [h2, Res.bind_stuck] at p; exact p
  | err e ρ1 => simp only [h1, Res.bind_err] at p; exact p
  | stuck => simp only [h1, Res.bind_stuck] at p; exact p
theorem wpA_starN {i : Nat} {k : Env → Res (List D)} {Q : List V → Hp → Prop} (h : WpA G W (itStarN i k) σ H Q) : tStar G.K (tVar i) (WpA G W k) σ H Q := by
  obtain ⟨F, ρ, fp, w, e, p⟩ := h
  unfold itStarN at p
  split at p
  · rename_i d hd
    split at p
    · rename_i xs h3
      obtain ⟨v, f1, f2, e1, r, pm, r2⟩ := e.get hd
      obtain ⟨q, vs, e2, hs, rs⟩ := elems_R r h3
      refine ⟨v, e1, q, vs, e2, hs, F, ρ, fp, w, e, ?_⟩
      cases h2 : k ρ with
      | ok ds ρ2 =>
        simp only [h2, Res.bind_ok] at p
        intro ws F2 H2 fw fp2 E2 W2 R2 r2
        exact p (vs ++ ws) F2 H2 fw fp2 E2 W2 R2 (Rs.append (f1 := []) (rs.keep E2 w fun _ m => nomatch m) r2)
      | err e ρ2 => simp only [h2, Res.bind_err] at p; exact p
      | stuck => simp only [h2, Res.bind_stuck] at p; exact p
    · exact p.elim
  · exact p.elim

/-- behind an argument list something is made of it, on new objects -/
def mkOf (k : List D → Option D) (f : Env → Res (List D)) : Env → Res D := fun ρ => (f ρ).bind fun ds ρ' => match k ds with
  | some d => .ok d ρ'
  | none => .stuck
def MkS (G : Gam) (r : List V → Hp → VK → Prop) (k : List D → Option D) : Prop :=
  ∀ (F : Addr → Prop) (H : Hp) (fp : List Addr) (vs : List V) (ds : List D) (d : D) (Q : VK), Wd F H fp → Rs G F H vs ds fp → k ds = some d →
    (∀ v F' H' fv, Ext F H fp F' H' fv → Wd F' H' fv → R G F' H' v d fv → Q v H') → r vs H Q
theorem mkOf_sound {r : List V → Hp → VK → Prop} {k : List D → Option D} (m : MkS G r k) {f : Env → Res (List D)} {Q : VK} (h : WpE G W (mkOf k f) σ H Q) : WpA G W f σ H fun vs H' => r vs H' Q := by
  obtain ⟨F, ρ, fp, w, e, p⟩ := h
  refine ⟨F, ρ, fp, w, e, ?_⟩
  unfold mkOf at p
  cases h1 : f ρ with
  | ok ds ρ' =>
    simp only [h1, Res.bind_ok] at p
    intro vs F1 H1 fv fp1 E1 W1 R1 rs
    cases h2 : k ds with
    | none => simp only [h2] at p; exact p.elim
    | some d =>
      simp only [h2] at p
      refine m F1 H1 fv vs ds d Q W1.left rs h2 fun v F2 H2 fw E2 W2 r2 => ?_
      have W1' : Wd F1 H1 (fp1 ++ fv) := W1.perm List.perm_append_comm
      have B := (E2.beside W1').perm List.perm_append_comm
      have WB := (W1'.beside E2 W2).perm List.perm_append_comm
      exact p v F2 H2 fw fp1 (E1.trans (B.perm0 List.perm_append_comm)) WB (R1.keep E2 W1.left W1'.apart2) r2
  | err e ρ' => simp only [h1, Res.bind_err] at p; exact p
  | stuck => simp only [h1, Res.bind_stuck] at p; exact p
def rTup : List V → Hp → VK → Prop := fun xs H1 Q => xs.length ≤ sizeLine ∧ ∀ p, H1 p = none → Q (.ref p) (upd H1 p (.tup xs))
def rLst : List V → Hp → VK → Prop := fun xs H1 Q => xs.length ≤ sizeLine ∧ ∀ p, H1 p = none → Q (.ref p) (upd H1 p (.lst xs))
def mkTup (ds : List D) : Option D := if ds.length ≤ sizeLine then some (.tup ds) else none
def mkLst (ds : List D) : Option D := if ds.length ≤ sizeLine then some (.lst true (frzs ds)) else none
theorem Rs.length : ∀ {vs : List V} {ds : List D} {fp : List Addr}, Rs G F H vs ds fp → vs.length = ds.length
  | _, _, _, .nil => rfl
  | _, _, _, .cons _ t => by simp [Rs.length t]
theorem mk_tup : MkS G rTup mkTup := by
  intro F H fp vs ds d Q w rs h q
  unfold mkTup at h
  split at h
  · rename_i hz
    cases h
    refine ⟨by rw [rs.length]; exact hz, fun p hp => ?_⟩
    have w' : Wd F H (fp ++ []) := by rw [List.append_nil]; exact w
    have B := (ext_new (F := F) (o := .tup vs) hp).beside w'
    have WB := w'.beside (ext_new (F := F) (o := .tup vs) hp) (wd_new w hp)
    simp only [List.append_nil] at B WB
    exact q _ F _ fp B WB (.tup (SqT.of upd_same) (rs.keep (ext_new hp) w.nil w'.apart2))
  · cases h
theorem mk_lst : MkS G rLst mkLst := by
  intro F H fp vs ds d Q w rs h q
  unfold mkLst at h
  split at h
  · rename_i hz
    cases h
    refine ⟨by rw [rs.length]; exact hz, fun p hp => ?_⟩
    have w' : Wd F H (fp ++ []) := by rw [List.append_nil]; exact w
    have wf : Wd (FF F fp) H [] := w'.freeze
    have rf := rs.freeze (g := fp) fun _ m => m
    have Ef : Ext F H (fp ++ []) (FF F fp) H [] := Ext.freeze w'
    rw [List.append_nil] at Ef
    refine q _ (FF F fp) _ [p] (Ef.trans (ext_own (o := .lst vs) hp)) (wd_own wf hp trivial) ?_
    have k : Rs G (FF F fp) (upd H p (.lst vs)) vs (frzs ds) [] := rf.keep (ext_new hp) wf fun _ m => nomatch m
    exact .lstO (fp := []) upd_same k
  · cases h
end

section
variable {X : Cx} {W : WX} {e : Expr} {es : List Expr} {pos : Pos}
theorem da_nil : PA X [] (WpA (gam X) W itNil) := ⟨fun pos pins s σ H Q I h => pa_nil.run pos pins s σ H Q I (wpA_nil h)⟩
theorem da_one {f : Env → Res D} {k : Env → Res (List D)} (he : DE X W e f) (hr : PA X es (WpA (gam X) W k)) (hs : starEach (e :: es) X.env = (false, eval e X.env) :: starEach es X.env := by rfl) : PA X (e :: es) (WpA (gam X) W (itOne f k)) :=
  ⟨fun pos pins s σ H Q I h => (pa_cons he.pe hr hs).run pos pins s σ H Q I (wpA_one h)⟩
theorem da_star {f : Env → Res D} {k : Env → Res (List D)} {p : Pos} (he : DE X W e f) (hr : PA X es (WpA (gam X) W k)) (hs : starEach (.Starred e p :: es) X.env = (true, eval e X.env) :: starEach es X.env := by rfl) : PA X (.Starred e p :: es) (WpA (gam X) W (itStar f k)) :=
  ⟨fun pos pins s σ H Q I h => (pa_star he.pe hr hs).run pos pins s σ H Q I (wpA_star h)⟩
theorem da_starN {i : Nat} {k : Env → Res (List D)} {p : Pos} (he : PE X e (tVar i)) (hr : PA X es (WpA (gam X) W k)) (hs : starEach (.Starred e p :: es) X.env = (true, eval e X.env) :: starEach es X.env := by rfl) : PA X (.Starred e p :: es) (WpA (gam X) W (itStarN i k)) :=
  ⟨fun pos pins s σ H Q I h => (pa_star he hr hs).run pos pins s σ H Q I (wpA_starN h)⟩
theorem de_tup {x1} {k : Env → Res (List D)} (h : PA X es (WpA (gam X) W k)) : DE X W (.Tuple es x1 pos) (mkOf mkTup k) := ⟨(pe_tup h).weak fun σ H Q q => mkOf_sound mk_tup q⟩
theorem de_lst {k : Env → Res (List D)} (h : PA X es (WpA (gam X) W k)) : DE X W (.List es pos) (mkOf mkLst k) := ⟨(pe_lst h).weak fun σ H Q q => mkOf_sound mk_lst q⟩
theorem de_int {i j} : DE X W (.Constant (.int i) j pos) (kst (.int i)) := ⟨pe_int.weak fun σ H Q q => wp_kst (fun _ _ => .int i) q⟩
theorem de_bl {b j} : DE X W (.Constant (.bool b) j pos) (kst (.bl b)) := ⟨pe_bl.weak fun σ H Q q => wp_kst (fun _ _ => .bl b) q⟩
theorem de_non {j} : DE X W (.Constant .none j pos) (kst .non) := ⟨pe_non.weak fun σ H Q q => wp_kst (fun _ _ => .non) q⟩
theorem de_str {x j} : DE X W (.Constant (.str x) j pos) (kst (.str x)) := ⟨pe_str.weak fun σ H Q q => wp_kst (fun _ _ => .str x) q⟩
theorem de_cp {i : Nat} (h : PE X e (tVar i)) : DE X W e (cp i) := ⟨h.weak fun σ H Q q => wp_cp q⟩
theorem de_mv {i : Nat} (h : PE X e (tVar i)) : DE X W e (mv i) := ⟨h.weak fun σ H Q q => wp_mv q⟩
/-- a constant of the module -/
theorem de_glob {d : D} {v : V} (h : PE X e (tC v)) (hr : ∀ F H, R (gam X) F H v d []) : DE X W e (kst d) := ⟨h.weak fun σ H Q q => wp_kst hr q⟩

/-! operands -/
structure DO (X : Cx) (W : WX) (e : Expr) (o : Opd) : Prop where
  pe : PE X e (o.te (gam X) W)
theorem do_nm {i : Nat} (h : PE X e (tVar i)) : DO X W e (.nm i) := ⟨h⟩
theorem do_ex {f : Env → Res D} (h : DE X W e f) : DO X W e (.ex f) := ⟨h.pe⟩
theorem dos_nil : PA X [] (teL (gam X) W []) := pa_nil
theorem dos_cons {o : Opd} {os : List Opd} (h : DO X W e o) (hr : PA X es (teL (gam X) W os)) (hs : starEach (e :: es) X.env = (false, eval e X.env) :: starEach es X.env := by rfl) : PA X (e :: es) (teL (gam X) W (o :: os)) := pa_cons h.pe hr hs

def r2 (r : V → V → Hp → VK → Prop) : List V → Hp → VK → Prop
  | [x, y], H, Q => r x y H Q
  | _, _, _ => False
def r1 (r : V → Hp → VK → Prop) : List V → Hp → VK → Prop
  | [x], H, Q => r x H Q
  | _, _, _ => False
theorem de_bin {op : Operator} {r : R2} {k : List D → Option D} {a b : Expr} {oa ob : Opd} (ho : OpR X (binaryOp op) r) (hk : OpS (gam X) (r2 r) k) (ha : DO X W a oa) (hb : DO X W b ob) : DE X W (.BinOp a op b pos) (pureOp k [oa, ob]) :=
  ⟨(pe_op ho ha.pe hb.pe).weak fun σ H Q q => pureOp_sound hk q⟩
theorem de_un {op : UnaryOp} {r : V → Hp → VK → Prop} {k : List D → Option D} {a : Expr} {oa : Opd} (ho : UnR X (unaryOp op) r) (hk : OpS (gam X) (r1 r) k) (ha : DO X W a oa) : DE X W (.UnaryOp op a pos) (pureOp k [oa]) :=
  ⟨(pe_un ho ha.pe).weak fun σ H Q q => pureOp_sound hk q⟩
theorem de_cmp {op : CmpOp} {r : R2} {k : List D → Option D} {a b : Expr} {oa ob : Opd} (ho : OpR X (compareOp op) r) (hk : OpS (gam X) (r2 r) k) (ha : DO X W a oa) (hb : DO X W b ob) (hm : behindInMarks op b = false) : DE X W (.Compare a [op] [b] pos) (pureOp k [oa, ob]) :=
  ⟨(pe_cmpR ho ha.pe hb.pe hm).weak fun σ H Q q => pureOp_sound hk q⟩
theorem de_ix {r : R2} {k : List D → Option D} {a b : Expr} {oa ob : Opd} (ho : IxR X r) (hk : OpS (gam X) (r2 r) k) (ha : DO X W a oa) (hb : DO X W b ob) (hs : PlainIx b) : DE X W (.Subscript a b pos) (pureOp k [oa, ob]) :=
  ⟨(pe_ix ho ha.pe hb.pe hs).weak fun σ H Q q => pureOp_sound hk q⟩
theorem de_callB {id : String} {r : List V → Hp → VK → Prop} {k : List D → Option D} {x : Str} {p : Pos} {os : List Opd} (hc : CallR X (.builtin id) r) (hk : OpS (gam X) r k) (hg : Gl X x) (hm : X.mg x = none) (hv : bootBuiltins x = some (.builtin id)) (ha : PA X (e :: es) (teL (gam X) W os))
    (hn : x ≠ "__name__" := by decide) (hdb : (x == ("__debug__" : Str)) = false := by decide) (hst : starEach (e :: es) X.env = (false, eval e X.env) :: starEach es X.env := by rfl) (hpl : (backTo pos (starEach es X.env)).any (·.1) = false := by rfl) :
    DE X W (.Call (.Name x p) (e :: es) [] pos) (pureOp k os) := ⟨(pe_callB hc hg hm hv ha hn hdb hst hpl).weak fun σ H Q q => pureOp_sound hk q⟩
end
end DL

set_option Elab.async false
set_option linter.all false
set_option maxRecDepth 100000
set_option maxHeartbeats 4000000
/-! DL4: tests, statements. -/
namespace DL
open PySem PySem.Spec PyProof.Rows L2

section
variable {G : Gam} {W : WX} {F F1 F2 : Addr → Prop} {H H1 H2 : Hp} {fp fp1 fp2 g g1 g2 : List Addr} {σ : L2.St} {ρ : Env}
theorem seqT {α β : Type} {Rel : (Addr → Prop) → Hp → β → α → List Addr → Prop} {f : Env → Res Bool} {k : Bool → Env → Res α} {Q : β → Hp → Prop} (h : WpG Rel G W (fun ρ => (f ρ).bind k) σ H Q) :
    WpT G W f σ H fun b H1 => WpG Rel G W (k b) σ H1 Q := by
  obtain ⟨F, ρ, fp, w, e, p⟩ := h
  refine ⟨F, ρ, fp, w, e, ?_⟩
  cases h1 : f ρ with
  | ok b ρ1 =>
    simp only [h1, Res.bind_ok] at p
    rintro b' F1 H1 fv fp1 E1 W1 R1 ⟨rfl, rfl⟩
    refine ⟨F1, ρ1, fp1, W1, R1, ?_⟩
    cases h2 : k b' ρ1 with
    | ok d ρ2 =>
      simp only [h2] at p
      intro v F2 H2 fw fp2 E2 W2 R2 r2
      exact p v F2 H2 fw fp2 (E1.trans E2) W2 R2 r2
    | err e ρ2 => simp only [h2] at p; exact PostE.behind (g := []) p E1 W1
    | stuck => simp only [h2] at p; exact p
  | err e ρ1 => simp only [h1, Res.bind_err] at p; exact p
  | stuck => simp only [h1, Res.bind_stuck] at p; exact p
theorem retT {b : Bool} {Q : Bool → Hp → Prop} (h : WpT G W (fun ρ => .ok b ρ) σ H Q) : Q b H := by
  obtain ⟨F, ρ, fp, w, e, p⟩ := h
  exact p b F H [] fp (Ext.refl w) w e ⟨rfl, rfl⟩
def isBl (d : D) (ρ : Env) : Res Bool := match d with
  | .bl b => .ok b ρ
  | _ => .stuck
def tst (f : Env → Res D) : Env → Res Bool := fun ρ => (f ρ).bind isBl
theorem wp_tst {f : Env → Res D} {Q : Bool → Hp → Prop} (h : WpT G W (tst f) σ H Q) : WpE G W f σ H fun x H1 => ∃ c, x = .bl c ∧ Q c H1 := by
  obtain ⟨F, ρ, fp, w, e, p⟩ := h
  refine ⟨F, ρ, fp, w, e, ?_⟩
  unfold tst at p
  cases h1 : f ρ with
  | ok d ρ1 =>
    simp only [h1, Res.bind_ok] at p
    intro v F1 H1 fv fp1 E1 W1 R1 r1
    cases r1 with
    | bl b => exact ⟨b, rfl, p b F1 H1 [] fp1 E1 W1 R1 ⟨rfl, rfl⟩⟩
    | _ => exact p.elim
  | err e ρ1 => simp only [h1, Res.bind_err] at p; exact p
  | stuck => simp only [h1, Res.bind_stuck] at p; exact p
def notB (f : Env → Res Bool) : Env → Res Bool := fun ρ => (f ρ).bind fun b ρ' => .ok (!b) ρ'
def andB (f g : Env → Res Bool) : Env → Res Bool := fun ρ => (f ρ).bind fun b ρ' => if b then g ρ' else .ok false ρ'
def orB (f g : Env → Res Bool) : Env → Res Bool := fun ρ => (f ρ).bind fun b ρ' => if b then .ok true ρ' else g ρ'
def valB (f : Env → Res Bool) : Env → Res D := fun ρ => (f ρ).bind fun b ρ' => .ok (.bl b) ρ'
def ifE (c : Env → Res Bool) (f g : Env → Res D) : Env → Res D := fun ρ => (c ρ).bind fun b ρ' => if b then f ρ' else g ρ'
theorem retE {b : Bool} {Q : VK} (h : WpE G W (fun ρ => .ok (.bl b) ρ) σ H Q) : Q (.bl b) H := by
  obtain ⟨F, ρ, fp, w, e, p⟩ := h
  exact p (.bl b) F H [] fp (Ext.refl w) w e (.bl b)
/-- a value that is a bool -/
theorem wp_valB {f : Env → Res D} {Q : VK} (h : WpE G W (valB (tst f)) σ H Q) : WpE G W f σ H fun x H1 => ∃ c, x = .bl c ∧ Q (.bl c) H1 := by
  have h2 := seqT h
  obtain ⟨F, ρ, fp, w, e, p⟩ := wp_tst h2
  refine ⟨F, ρ, fp, w, e, ?_⟩
  cases h1 : f ρ with
  | ok d ρ1 =>
    simp only [h1] at p
    intro v F1 H1 fv fp1 E1 W1 R1 r1
    obtain ⟨c, e2, q⟩ := p v F1 H1 fv fp1 E1 W1 R1 r1
    exact ⟨c, e2, retE q⟩
  | err e ρ1 => simp only [h1] at p; exact p
  | stuck => simp only [h1] at p; exact p
end

section
variable {X : Cx} {W : WX} {e a b c : Expr} {es rest : List Expr} {pos : Pos} {f g k : Env → Res Bool}
structure DW (X : Cx) (W : WX) (e : Expr) (f : Env → Res Bool) : Prop where
  pw : PW X e (WpT (gam X) W f)
theorem dt_val {f : Env → Res D} (h : DE X W e f) (he : ∀ whole, isTrue e X.env whole = (do let v ← whole; standAt e.pos; holding [v] (truthy v)) := by intro _; rfl) : DT X W e (tst f) := ⟨(pt_val h.pe he).weak fun σ H Q q => wp_tst q⟩
theorem dt_cmp {op : CmpOp} {r : R2} {k : List D → Option D} {oa ob : Opd} (ho : OpR X (compareOp op) r) (hk : OpS (gam X) (r2 r) k) (ha : DO X W a oa) (hb : DO X W b ob) (hm : behindInMarks op b = false) : DT X W (.Compare a [op] [b] pos) (tst (pureOp k [oa, ob])) :=
  ⟨(pt_cmpR ho ha.pe hb.pe hm).weak fun σ H Q q => pureOp_sound (Q := fun x H1 => ∃ c, x = .bl c ∧ Q c H1) hk (wp_tst q)⟩
theorem dt_not (h : DT X W a f) : DT X W (.UnaryOp .Not a pos) (notB f) := ⟨(pt_not h.pt).weak fun σ H Q q => by
  obtain ⟨F, ρ, fp, w, e, p⟩ := seqT q
  refine ⟨F, ρ, fp, w, e, ?_⟩
  cases h1 : f ρ with
  | ok d ρ1 => simp only [h1] at p; exact fun v F1 H1 fv fp1 E1 W1 R1 r1 => retT (p v F1 H1 fv fp1 E1 W1 R1 r1)
  | err e ρ1 => simp only [h1] at p; exact p
  | stuck => simp only [h1] at p; exact p⟩
theorem wpT_mono {G : Gam} {σ : L2.St} {H : Hp} {Q Q' : Bool → Hp → Prop} (h : WpT G W f σ H Q) (m : ∀ b H, Q b H → Q' b H) : WpT G W f σ H Q' := by
  obtain ⟨F, ρ, fp, w, e, p⟩ := h
  refine ⟨F, ρ, fp, w, e, ?_⟩
  cases h1 : f ρ with
  | ok d ρ1 => simp only [h1] at p; exact fun v F1 H1 fv fp1 E1 W1 R1 r1 => m _ _ (p v F1 H1 fv fp1 E1 W1 R1 r1)
  | err e ρ1 => simp only [h1] at p; exact p
  | stuck => simp only [h1] at p; exact p
theorem dt_w (h : DW X W e f) : DT X W e f := ⟨h.pw.pt⟩
theorem dw_and1 (h : DT X W a f) : DW X W (.BoolOp .And [a] pos) f := ⟨pw_and1 h.pt⟩
theorem dw_or1 (h : DT X W a f) : DW X W (.BoolOp .Or [a] pos) f := ⟨pw_or1 h.pt⟩
theorem _root_.L2.PW.weak {X : Cx} {e : Expr} {t t' : TT} (h : PW X e t) (m : ∀ σ H Q, t' σ H Q → t σ H Q) : PW X e t' := ⟨fun wh pins s σ H Q I q => h.run wh pins s σ H Q I (m σ H Q q)⟩
theorem dw_and (ha : DT X W a f) (hb : DW X W (.BoolOp .And (b :: rest) pos) g) : DW X W (.BoolOp .And (a :: b :: rest) pos) (andB f g) := ⟨(pw_and ha.pt hb.pw).weak fun σ H Q q => wpT_mono (seqT q) fun c H1 z => by
  cases c with
  | true => simpa using z
  | false => simp only [Bool.false_eq_true, if_false] at z ⊢; exact retT z⟩
theorem dw_or (ha : DT X W a f) (hb : DW X W (.BoolOp .Or (b :: rest) pos) g) : DW X W (.BoolOp .Or (a :: b :: rest) pos) (orB f g) := ⟨(pw_or ha.pt hb.pw).weak fun σ H Q q => wpT_mono (seqT q) fun c H1 z => by
  cases c with
  | false => simpa using z
  | true => simp only [if_true] at z ⊢; exact retT z⟩
/-- values that are bools -/
theorem wpE_mono {G : Gam} {σ : L2.St} {H : Hp} {f : Env → Res D} {Q Q' : VK} (h : WpE G W f σ H Q) (m : ∀ b H, Q b H → Q' b H) : WpE G W f σ H Q' := by
  obtain ⟨F, ρ, fp, w, e, p⟩ := h
  refine ⟨F, ρ, fp, w, e, ?_⟩
  cases h1 : f ρ with
  | ok d ρ1 => simp only [h1] at p; exact fun v F1 H1 fv fp1 E1 W1 R1 r1 => m _ _ (p v F1 H1 fv fp1 E1 W1 R1 r1)
  | err e ρ1 => simp only [h1] at p; exact p
  | stuck => simp only [h1] at p; exact p
def andV (f g : Env → Res D) : Env → Res D := fun ρ => (tst f ρ).bind fun b ρ' => if b then g ρ' else .ok (.bl false) ρ'
def orV (f g : Env → Res D) : Env → Res D := fun ρ => (tst f ρ).bind fun b ρ' => if b then .ok (.bl true) ρ' else g ρ'
def notV (f : Env → Res D) : Env → Res D := fun ρ => (tst f ρ).bind fun b ρ' => .ok (.bl (!b)) ρ'
theorem de_one {op} {f : Env → Res D} (h : DE X W a f) : DE X W (.BoolOp op [a] pos) f := ⟨pe_one h.pe⟩
theorem de_and {f g : Env → Res D} (ha : DE X W a f) (hb : DE X W (.BoolOp .And (b :: rest) pos) g) : DE X W (.BoolOp .And (a :: b :: rest) pos) (andV f g) := ⟨(pe_and ha.pe hb.pe).weak fun σ H Q q => wpE_mono (wp_tst (seqT q)) fun x H1 ⟨c, e, z⟩ => ⟨c, e, by
  cases c with
  | true => simpa using z
  | false => simp only [Bool.false_eq_true, if_false] at z ⊢; exact retE z⟩⟩
theorem de_or {f g : Env → Res D} (ha : DE X W a f) (hb : DE X W (.BoolOp .Or (b :: rest) pos) g) : DE X W (.BoolOp .Or (a :: b :: rest) pos) (orV f g) := ⟨(pe_or ha.pe hb.pe).weak fun σ H Q q => wpE_mono (wp_tst (seqT q)) fun x H1 ⟨c, e, z⟩ => ⟨c, e, by
  cases c with
  | false => simpa using z
  | true => simp only [if_true] at z ⊢; exact retE z⟩⟩
theorem de_not {f : Env → Res D} (ha : DE X W a f) : DE X W (.UnaryOp .Not a pos) (notV f) := ⟨(pe_not ha.pe).weak fun σ H Q q => wpE_mono (wp_tst (seqT q)) fun x H1 ⟨c, e, z⟩ => ⟨c, e, retE z⟩⟩
theorem de_ifE {f g : Env → Res D} (hc : DT X W c k) (ha : DE X W a f) (hb : DE X W b g) : DE X W (.IfExp c a b pos) (ifE k f g) := ⟨(pe_ifExp hc.pt ha.pe hb.pe).weak fun σ H Q q => wpT_mono (seqT q) fun c H1 z => by
  cases c with
  | true => simpa using z
  | false => simpa using z⟩
end

/-! ### statements -/
inductive SR where
  | nx (ρ : Env) | rt (d : D) (ρ : Env) | bk (ρ : Env) | ct (ρ : Env) | err (e : Exn) (ρ : Env) | stuck
def Keep (kp : List Nat) (σ σ' : L2.St) : Prop := ∀ i ∈ kp, σ'[i]? = σ[i]?
theorem Keep.refl {kp : List Nat} {σ : L2.St} : Keep kp σ σ := fun _ _ => rfl
theorem Keep.trans {kp : List Nat} {σ σ1 σ2 : L2.St} (a : Keep kp σ σ1) (b : Keep kp σ1 σ2) : Keep kp σ σ2 := fun i h => (b i h).trans (a i h)
theorem Keep.set {kp : List Nat} {σ : L2.St} {i : Nat} {o : Option V} (h : i ∉ kp) : Keep kp σ (σ.set i o) := fun j hj => by
  rw [List.getElem?_set_ne]
  rintro rfl
  exact h hj
def PostN (kp : List Nat) (G : Gam) (F : Addr → Prop) (H : Hp) (fp : List Addr) (σ : L2.St) (ρ' : Env) (Q : L2.St → Hp → Prop) : Prop :=
  ∀ σ' F' H' fp', Ext F H fp F' H' fp' → Wd F' H' fp' → EnvR G F' H' σ' ρ' fp' → Keep kp σ σ' → Q σ' H'
def PostS (W : WX) (kp : List Nat) (G : Gam) (F : Addr → Prop) (H : Hp) (fp : List Addr) (σ : L2.St) (r : SR) (D : Ends) : Prop :=
  match r with
  | .nx ρ' => PostN kp G F H fp σ ρ' D.nx
  | .bk ρ' => PostN kp G F H fp σ ρ' D.bk
  | .ct ρ' => PostN kp G F H fp σ ρ' D.ct
  | .rt d ρ' => ∀ v σ' F' H' fv fp', Ext F H fp F' H' (fv ++ fp') → Wd F' H' (fv ++ fp') → EnvR G F' H' σ' ρ' fp' → R G F' H' v d fv → Keep kp σ σ' → D.rt v H'
  | .err e ρ' => ∀ c d σ' F' H' fp', Ext F H fp F' H' fp' → Wd F' H' fp' → EnvR G F' H' σ' ρ' fp' → ExcR G F' H' c d e → Keep kp σ σ' → W c d σ' H'
  | .stuck => False
def WpS (G : Gam) (W : WX) (kp : List Nat) (s : Env → SR) : TS := fun D σ H => ∃ F ρ fp, Wd F H fp ∧ EnvR G F H σ ρ fp ∧ PostS W kp G F H fp σ (s ρ) D
structure DS (X : Cx) (W : WX) (kp : List Nat) (st : Stmt) (s : Env → SR) : Prop where
  ps : PS X st (WpS (gam X) W kp s)
structure DSs (X : Cx) (W : WX) (kp : List Nat) (st : List Stmt) (s : Env → SR) : Prop where
  ps : PSs X st (WpS (gam X) W kp s)

section
variable {G : Gam} {W : WX} {kp : List Nat} {F F1 F2 : Addr → Prop} {H H1 H2 : Hp} {fp fp1 fp2 g g1 g2 : List Addr} {σ σ1 : L2.St} {ρ : Env} {D' : Ends}
theorem PostN.behind {ρ' : Env} {Q : L2.St → Hp → Prop} (p : PostN kp G F H fp σ ρ' Q) (E : Ext F H fp F1 H1 fp1) (k : Keep kp σ σ1) : PostN kp G F1 H1 fp1 σ1 ρ' Q :=
  fun σ' F' H' fp' E' W' R' k' => p σ' F' H' fp' (E.trans E') W' R' (k.trans k')
theorem PostS.behind {r : SR} (p : PostS W kp G F H fp σ r D') (E : Ext F H fp F1 H1 fp1) (k : Keep kp σ σ1) : PostS W kp G F1 H1 fp1 σ1 r D' := by
  cases r with
  | nx ρ' => exact PostN.behind p E k
  | bk ρ' => exact PostN.behind p E k
  | ct ρ' => exact PostN.behind p E k
  | rt d ρ' => exact fun v σ' F' H' fv fp' E' W' R' r' k' => p v σ' F' H' fv fp' (E.trans E') W' R' r' (k.trans k')
  | err e ρ' => exact fun c d σ' F' H' fp' E' W' R' x k' => p c d σ' F' H' fp' (E.trans E') W' R' x (k.trans k')
  | stuck => exact p
/-- an expression, then a statement's rest that hangs on its value -/
def bindS {α : Type} (r : Res α) (k : α → Env → SR) : SR := match r with
  | .ok a ρ => k a ρ
  | .err e ρ => .err e ρ
  | .stuck => .stuck
def seqS (s t : Env → SR) : Env → SR := fun ρ => match s ρ with
  | .nx ρ1 => t ρ1
  | r => r
def nxS : Env → SR := fun ρ => .nx ρ
def exprS (f : Env → Res D) : Env → SR := fun ρ => bindS (f ρ) fun _ ρ' => .nx ρ'
def retS (f : Env → Res D) : Env → SR := fun ρ => bindS (f ρ) fun d ρ' => .rt d ρ'
def retNS : Env → SR := fun ρ => .rt .non ρ
def ifS (c : Env → Res Bool) (s t : Env → SR) : Env → SR := fun ρ => bindS (c ρ) fun b ρ' => if b then s ρ' else t ρ'
def asgS (i : Nat) (f : Env → Res D) : Env → SR := fun ρ => bindS (f ρ) fun d ρ' => .nx (ρ'.set i (some d))
theorem wpS_seq {s t : Env → SR} (h : WpS G W kp (seqS s t) D' σ H) : tSeq (WpS G W kp s) (WpS G W kp t) D' σ H := by
  obtain ⟨F, ρ, fp, w, e, p⟩ := h
  refine ⟨F, ρ, fp, w, e, ?_⟩
  unfold seqS at p
  cases h1 : s ρ with
  | nx ρ1 =>
    simp only [h1] at p
    intro σ' F' H' fp' E' W' R' k'
    exact ⟨F', ρ1, fp', W', R', p.behind E' k'⟩
  | _ => simp only [h1] at p; exact p
/-- what is wanted of an expression in a statement -/
theorem wpS_bindE {f : Env → Res D} {k : D → Env → SR} {Q : VK} (h : WpS G W kp (fun ρ => bindS (f ρ) k) D' σ H)
    (m : ∀ d ρ1 v F1 H1 fv fp1, Wd F1 H1 (fv ++ fp1) → EnvR G F1 H1 σ ρ1 fp1 → R G F1 H1 v d fv → PostS W kp G F1 H1 (fv ++ fp1) σ (k d ρ1) D' → Q v H1) : WpE G W f σ H Q := by
  obtain ⟨F, ρ, fp, w, e, p⟩ := h
  refine ⟨F, ρ, fp, w, e, ?_⟩
  cases h1 : f ρ with
  | ok d ρ1 =>
    simp only [h1, bindS] at p
    intro v F1 H1 fv fp1 E1 W1 R1 r1
    exact m d ρ1 v F1 H1 fv fp1 W1 R1 r1 (p.behind E1 Keep.refl)
  | err e ρ1 => simp only [h1, bindS] at p; exact fun c d F' H' fp' E' W' R' x => p c d σ F' H' fp' E' W' R' x Keep.refl
  | stuck => simp only [h1, bindS] at p; exact p
theorem wpS_bindT {f : Env → Res Bool} {k : Bool → Env → SR} (h : WpS G W kp (fun ρ => bindS (f ρ) k) D' σ H) : WpT G W f σ H fun b H1 => WpS G W kp (k b) D' σ H1 := by
  obtain ⟨F, ρ, fp, w, e, p⟩ := h
  refine ⟨F, ρ, fp, w, e, ?_⟩
  cases h1 : f ρ with
  | ok d ρ1 =>
    simp only [h1, bindS] at p
    rintro b' F1 H1 fv fp1 E1 W1 R1 ⟨rfl, rfl⟩
    exact ⟨F1, ρ1, fp1, W1, R1, p.behind E1 Keep.refl⟩
  | err e ρ1 => simp only [h1, bindS] at p; exact fun c d F' H' fp' E' W' R' x => p c d σ F' H' fp' E' W' R' x Keep.refl
  | stuck => simp only [h1, bindS] at p; exact p
theorem EnvR.set {v : V} {d : D} {f1 : List Addr} {i : Nat} (h : EnvR G F H σ ρ fp) (r : R G F H v d f1) (w : Wd F H (f1 ++ fp)) : ∃ g, Wd F H g ∧ (∀ a ∈ g, a ∈ f1 ++ fp) ∧ EnvR G F H (σ.set i (some v)) (ρ.set i (some d)) g := by
  by_cases hi : i < ρ.length
  case neg =>
    rw [List.set_eq_of_length_le (by rw [h.len]; omega), List.set_eq_of_length_le (by omega)]
    exact ⟨fp, w.right, fun a m => List.mem_append_right _ m, h⟩
  obtain ⟨g, s, e⟩ := h.drop i
  obtain ⟨g2, p, e2⟩ := e.put (i := i) (by simp [hi]) r
  rw [set_none_set] at e2
  have s2 : (f1 ++ g).Sublist (f1 ++ fp) := List.Sublist.append_left s f1
  exact ⟨g2, (w.sub s2).perm p.symm, fun a m => s2.subset (p.mem_iff.mp m), e2⟩
end

section
variable {X : Cx} {W : WX} {kp : List Nat} {e : Expr} {st : Stmt} {sts sts' : List Stmt} {pos : Pos} {s t : Env → SR} {f : Env → Res D}
theorem dss_nil : DSs X W kp [] nxS := ⟨pss_nil.weak fun D σ H ⟨F, ρ, fp, w, e, p⟩ => p σ F H fp (Ext.refl w) w e Keep.refl⟩
theorem dss_cons (h1 : DS X W kp st s) (h2 : DSs X W kp sts t) : DSs X W kp (st :: sts) (seqS s t) := ⟨(pss_cons h1.ps h2.ps).weak fun D σ H q => wpS_seq q⟩
theorem dss_one (h1 : DS X W kp st s) : DSs X W kp [st] s := ⟨pss_one h1.ps⟩
theorem ds_pass : DS X W kp (.Pass pos) nxS := ⟨ps_pass.weak fun D σ H ⟨F, ρ, fp, w, e, p⟩ => p σ F H fp (Ext.refl w) w e Keep.refl⟩
def bkS : Env → SR := fun ρ => .bk ρ
def ctS : Env → SR := fun ρ => .ct ρ
theorem ds_break : DS X W kp (.Break pos) bkS := ⟨ps_break.weak fun D σ H ⟨F, ρ, fp, w, e, p⟩ => p σ F H fp (Ext.refl w) w e Keep.refl⟩
theorem ds_cont : DS X W kp (.Continue pos) ctS := ⟨ps_continue.weak fun D σ H ⟨F, ρ, fp, w, e, p⟩ => p σ F H fp (Ext.refl w) w e Keep.refl⟩
theorem ds_doc {x j pos pos'} : DS X W kp (.Expr (.Constant (.str x) j pos) pos') nxS := ⟨ps_doc.weak fun D σ H ⟨F, ρ, fp, w, e, p⟩ => p σ F H fp (Ext.refl w) w e Keep.refl⟩
theorem ds_expr (he : DE X W e f) (hs : swapsWith e none pos.line X.env = pure false := by rfl) : DS X W kp (.Expr e pos) (exprS f) := ⟨(ps_expr he.pe hs).weak fun D σ H q =>
  wpS_bindE q fun d ρ1 v F1 H1 fv fp1 w r _ p => p σ F1 H1 fp1 (((Ext.refl w).less fun _ m => List.mem_append_right _ m)) w.right r Keep.refl⟩
theorem ds_ret (he : DE X W e f) : DS X W kp (.Return (some e) pos) (retS f) := ⟨(ps_ret he.pe).weak fun D σ H q =>
  wpS_bindE q fun d ρ1 v F1 H1 fv fp1 w r r1 p => p v σ F1 H1 fv fp1 (Ext.refl w) w r r1 Keep.refl⟩
theorem ds_retN : DS X W kp (.Return none pos) retNS := ⟨ps_retN.weak fun D σ H ⟨F, ρ, fp, w, e, p⟩ => p .non σ F H [] fp (Ext.refl w) w e .non Keep.refl⟩
theorem ds_if {c : Expr} {k : Env → Res Bool} (hc : DT X W c k) (ha : DSs X W kp sts s) (hb : DSs X W kp sts' t) : DS X W kp (.If c sts sts' pos) (ifS k s t) := ⟨(ps_if hc.pt ha.ps hb.ps).weak fun D σ H q =>
  wpT_mono (wpS_bindT q) fun b H1 z => by
    cases b with
    | true => simpa using z
    | false => simpa using z⟩
theorem ds_set {i : Nat} {x : Str} {pos' : Pos} (hN : X.N.Nodup) (hi : X.N[i]? = some x) (hx : Loc X.env.scope x) (he : DE X W e f) (hk : i ∉ kp) (hs : swapsWith e (some (.Name x pos')) pos.line X.env = pure false := by rfl) (hf : X.fn x = true ∨ X.env.scope.names.lookup x = some .local := by first | exact .inl rfl | exact .inr rfl | assumption) :
    DS X W kp (.Assign [.Name x pos'] e pos) (asgS i f) := ⟨(ps_set hN hi hx he.pe hs hf).weak fun D σ H q =>
  wpS_bindE q fun d ρ1 v F1 H1 fv fp1 w r r1 p => by
    obtain ⟨g, w2, sb, e2⟩ := EnvR.set r (i := i) r1 w
    exact p _ F1 H1 g ((Ext.refl w).less sb) w2 e2 (Keep.set hk)⟩
end
end DL

set_option Elab.async false
set_option linter.all false
set_option maxRecDepth 100000
set_option maxHeartbeats 4000000
/-! DL5: defs and calls. -/
namespace DL
open PySem PySem.Spec PyProof.Rows L2

/-- how a call ends: what owned arguments have become is told (none: not known) -/
inductive FR where
  | ok (d : D) (outs : List (Option D))
  | err (e : Exn) (outs : List (Option D))
  | stuck
section
variable (G : Gam) (F : Addr → Prop) (H : Hp)
inductive Ro : List V → List (Option D) → List Addr → Prop
  | nil : Ro [] [] []
  | none {v vs ds fp} : Ro vs ds fp → Ro (v :: vs) (none :: ds) fp
  | some {v d vs ds f1 f2} : R G F H v d f1 → Ro vs ds f2 → Ro (v :: vs) (some d :: ds) (f1 ++ f2)
end
/-- a def's promise -/
def spD (G : Gam) (f : List D → FR) : Sp := fun vs H Q E => ∃ F ds fp, Wd F H fp ∧ Rs G F H vs ds fp ∧ match f ds with
  | .ok d outs => ∀ v F' H' fv fo, Ext F H fp F' H' (fv ++ fo) → Wd F' H' (fv ++ fo) → R G F' H' v d fv → Ro G F' H' vs outs fo → Q v H'
  | .err e outs => ∀ c d F' H' fo, Ext F H fp F' H' fo → Wd F' H' fo → Ro G F' H' vs outs fo → ExcR G F' H' c d e → E c d H'
  | .stuck => False
/-- .. of n parameters -/
def spN (G : Gam) (n : Nat) (f : List D → FR) : Sp := fun vs H Q E => vs.length = n ∧ spD G f vs H Q E

/-! ### arguments that are names lie as they are, and are given back -/
def takeO : List Opd → List (Option D) → Env → Option (List D × Env)
  | [], [], ρ => some ([], ρ)
  | .nm i :: os, none :: ts, ρ => match ρ[i]? with
    | some (some d) => match takeO os ts (if solid d then ρ else ρ.set i none) with
      | some (ds, ρ') => some (d :: ds, ρ')
      | none => none
    | _ => none
  | .ex _ :: os, some d :: ts, ρ => match takeO os ts ρ with
    | some (ds, ρ') => some (d :: ds, ρ')
    | none => none
  | _, _, _ => none
def putO : List Opd → List D → List (Option D) → Env → Env
  | .nm i :: os, d :: ds, o :: outs, ρ => putO os ds outs (if solid d then ρ else match ρ[i]? with
    | some none => ρ.set i o
    | _ => ρ)
  | .ex _ :: os, _ :: ds, _ :: outs, ρ => putO os ds outs ρ
  | _, _, _, ρ => ρ
section
variable {G : Gam} {W : WX} {kp : List Nat} {F F1 F2 : Addr → Prop} {H H1 H2 : Hp} {fp fp1 fp2 g g1 g2 : List Addr} {σ σ1 : L2.St} {ρ : Env}
theorem takeO_sound : ∀ {os : List Opd} {vs : List V} {ts : List (Option D)} {ft fp : List Addr} {ds : List D} {ρ ρ' : Env}, OpsT G F H σ os vs ts ft → EnvR G F H σ ρ fp → takeO os ts ρ = some (ds, ρ') →
    ∃ fa fr, Rs G F H vs ds fa ∧ (fa ++ fr).Perm (ft ++ fp) ∧ EnvR G F H σ ρ' fr
  | _, _, _, _, fp, ds, ρ, ρ', .nil, e, h => by
    simp only [takeO, Option.some.injEq, Prod.mk.injEq] at h
    obtain ⟨rfl, rfl⟩ := h
    exact ⟨[], fp, .nil, List.Perm.refl _, e⟩
  | _, _, _, _, fp, ds, ρ, ρ', .nm (i := i) hv t, e, h => by
    unfold takeO at h
    split at h
    · rename_i d hd
      split at h
      · rename_i ds1 ρ1 h1
        simp only [Option.some.injEq, Prod.mk.injEq] at h
        obtain ⟨rfl, rfl⟩ := h
        obtain ⟨v', f1, f2, e1, r, pm, e2⟩ := e.get hd
        rw [hv] at e1
        cases e1
        by_cases s : solid d = true
        · rw [if_pos s] at h1
          have z := r.solid0 s
          subst z
          obtain ⟨fa, fr, r1, p1, e3⟩ := takeO_sound t e h1
          exact ⟨fa, fr, .cons (f1 := []) r r1, p1, e3⟩
        · rw [if_neg s] at h1
          obtain ⟨fa, fr, r1, p1, e3⟩ := takeO_sound t e2 h1
          refine ⟨f1 ++ fa, fr, .cons r r1, ?_, e3⟩
          rw [List.append_assoc]
          refine (List.Perm.append_left f1 p1).trans ?_
          refine List.Perm.trans ?_ (List.Perm.append_left _ pm.symm)
          rw [← List.append_assoc, ← List.append_assoc]
          exact List.Perm.append_right f2 List.perm_append_comm
      · cases h
    · cases h
  | _, _, _, _, fp, ds, ρ, ρ', .ex r t, e, h => by
    unfold takeO at h
    split at h
    · rename_i ds1 ρ1 h1
      simp only [Option.some.injEq, Prod.mk.injEq] at h
      obtain ⟨rfl, rfl⟩ := h
      obtain ⟨fa, fr, r1, p1, e3⟩ := takeO_sound t e h1
      refine ⟨_, fr, .cons r r1, ?_, e3⟩
      rw [List.append_assoc, List.append_assoc]
      exact List.Perm.append_left _ p1
    · cases h
theorem putO_sound : ∀ {os : List Opd} {vs : List V} {ts : List (Option D)} {ft fo fr : List Addr} {ds : List D} {outs : List (Option D)} {ρ : Env} {F0 : Addr → Prop} {H0 : Hp}, OpsT G F0 H0 σ os vs ts ft → Ro G F H vs outs fo → EnvR G F H σ ρ fr → Wd F H (fo ++ fr) →
    ∃ g, Wd F H g ∧ (∀ a ∈ g, a ∈ fo ++ fr) ∧ EnvR G F H σ (putO os ds outs ρ) g
  | _, _, _, _, fo, fr, ds, outs, ρ, _, _, .nil, ro, e, w => ⟨fr, w.right, fun a m => List.mem_append_right _ m, by simpa [putO] using e⟩
  | _, _, _, _, fo, fr, [], outs, ρ, _, _, .nm _ t, ro, e, w => ⟨fr, w.right, fun a m => List.mem_append_right _ m, by simpa [putO] using e⟩
  | _, _, _, _, fo, fr, [], outs, ρ, _, _, .ex _ t, ro, e, w => ⟨fr, w.right, fun a m => List.mem_append_right _ m, by simpa [putO] using e⟩
  | _, _, _, _, fo, fr, d :: ds, _, ρ, _, _, .nm (i := i) hv t, .none ro, e, w => by
    unfold putO
    by_cases s : solid d = true
    · rw [if_pos s]; exact putO_sound t ro e w
    · rw [if_neg s]
      split
      · rename_i hn
        rw [show ρ.set i none = ρ from set_same hn]
        exact putO_sound t ro e w
      · exact putO_sound t ro e w
  | _, _, _, _, _, fr, d :: ds, _, ρ, _, _, .nm (i := i) hv t, .some (f1 := f1) (f2 := f2) r ro, e, w => by
    unfold putO
    have wr : Wd F H (f2 ++ fr) := by rw [List.append_assoc] at w; exact w.right
    have later : ∀ g' : List Addr, (∀ a ∈ g', a ∈ f2 ++ fr) → ∀ a ∈ g', a ∈ (f1 ++ f2) ++ fr := fun g' m a h => by
      rw [List.append_assoc]; exact List.mem_append_right _ (m a h)
    by_cases s : solid d = true
    · rw [if_pos s]
      obtain ⟨g, w2, sb, e2⟩ := putO_sound (ds := ds) t ro e wr
      exact ⟨g, w2, later g sb, e2⟩
    · rw [if_neg s]
      split
      · rename_i hn
        obtain ⟨g0, p0, e0⟩ := e.fill hv hn r
        have pq : ((f1 ++ f2) ++ fr).Perm (f2 ++ g0) := by
          refine List.Perm.trans ?_ (List.Perm.append_left f2 p0.symm)
          rw [← List.append_assoc]
          exact List.Perm.append_right fr List.perm_append_comm
        obtain ⟨g, w2, sb, e2⟩ := putO_sound (ds := ds) t ro e0 (w.perm pq)
        exact ⟨g, w2, fun a m => pq.mem_iff.mpr (sb a m), e2⟩
      · obtain ⟨g, w2, sb, e2⟩ := putO_sound (ds := ds) t ro e wr
        exact ⟨g, w2, later g sb, e2⟩
  | _, _, _, _, fo, fr, d :: ds, _, ρ, _, _, .ex r t, .none ro, e, w => by unfold putO; exact putO_sound t ro e w
  | _, _, _, _, _, fr, d :: ds, _, ρ, _, _, .ex _ t, .some (f1 := f1) (f2 := f2) r ro, e, w => by
    unfold putO
    have wr : Wd F H (f2 ++ fr) := by rw [List.append_assoc] at w; exact w.right
    obtain ⟨g, w2, sb, e2⟩ := putO_sound (ds := ds) t ro e wr
    exact ⟨g, w2, fun a m => by rw [List.append_assoc]; exact List.mem_append_right _ (sb a m), e2⟩

/-- a call of a def that means f -/
def callD (f : List D → FR) (os : List Opd) : Env → Res D := fun ρ => (evalT os ρ).bind fun ts ρ1 => match takeO os ts ρ1 with
  | none => .stuck
  | some (ds, ρ2) => match f ds with
    | .ok d outs => .ok d (putO os ds outs ρ2)
    | .err e outs => .err e (putO os ds outs ρ2)
    | .stuck => .stuck
theorem callD_sound {f : List D → FR} {os : List Opd} {Q : VK} (h : WpE G W (callD f os) σ H Q) : teL G W os σ H fun vs H1 => spD G f vs H1 Q (WE W σ) := by
  obtain ⟨F, ρ, fp, w, e, p⟩ := h
  refine evalT_sound os F H ρ fp _ w e ?_
  unfold callD at p
  cases h1 : evalT os ρ with
  | ok ts ρ1 =>
    simp only [h1, Res.bind_ok] at p
    intro vs F1 H1 ft fp1 E1 W1 R1 T1
    cases h2 : takeO os ts ρ1 with
    | none => simp only [h2] at p; exact p.elim
    | some q =>
      obtain ⟨ds, ρ2⟩ := q
      simp only [h2] at p
      obtain ⟨fa, fr, rs, pm, e2⟩ := takeO_sound T1 R1 h2
      have W2 : Wd F1 H1 (fa ++ fr) := W1.perm pm.symm
      have W2' : Wd F1 H1 (fr ++ fa) := W2.perm List.perm_append_comm
      have E1' : Ext F H fp F1 H1 (fr ++ fa) := (E1.perm pm.symm).perm List.perm_append_comm
      refine ⟨F1, ds, fa, W2.left, rs, ?_⟩
      cases h3 : f ds with
      | ok d outs =>
        simp only [h3] at p
        intro v F2 H2 fv fo E2 WW2 r2 ro
        have B := E2.beside W2'
        have WB := W2'.beside E2 WW2
        have pq : (fr ++ (fv ++ fo)).Perm (fv ++ (fo ++ fr)) := by
          rw [← List.append_assoc, ← List.append_assoc]
          refine List.Perm.trans (List.Perm.append_right fo List.perm_append_comm) ?_
          rw [List.append_assoc, List.append_assoc]
          exact List.Perm.append_left fv List.perm_append_comm
        have e3 := e2.keep E2 W2.left W2'.apart2
        have WB' := WB.perm pq
        obtain ⟨g, wg, sg, e4⟩ := putO_sound (ds := ds) T1 ro e3 WB'.right
        have Wf : Wd F2 H2 (fv ++ g) := by
          refine ⟨List.nodup_append.mpr ⟨WB'.left.nodup, wg.nodup, fun a m b n z => ?_⟩, fun a m => ?_, fun a m => ?_, wg.ft⟩
          · subst z; exact WB'.apart a m (sg a n)
          · exact (List.mem_append.mp m).elim (WB'.left.ff a) (wg.ff a)
          · exact (List.mem_append.mp m).elim (WB'.left.own a) (wg.own a)
        refine p v F2 H2 fv g (((E1'.trans B).perm pq).less fun a m => ?_) Wf e4 r2
        exact (List.mem_append.mp m).elim (List.mem_append_left _) fun n => List.mem_append_right _ (sg a n)
      | err e outs =>
        simp only [h3] at p
        intro c d F2 H2 fo E2 WW2 ro x
        have B := E2.beside W2'
        have WB := (W2'.beside E2 WW2).perm (fp1 := fo ++ fr) List.perm_append_comm
        obtain ⟨g, wg, sg, e4⟩ := putO_sound (ds := ds) T1 ro (e2.keep E2 W2.left W2'.apart2) WB
        exact p c d F2 H2 g (((E1'.trans B).perm List.perm_append_comm).less sg) wg e4 x
      | stuck => simp only [h3] at p; exact p.elim
  | err e ρ' => simp only [h1, Res.bind_err] at p; exact p
  | stuck => simp only [h1, Res.bind_stuck] at p; exact p
end

/-! ### a def by its body -/
/-- what the parameters have become -/
def outsOf (kp : List Nat) : Nat → List D → Env → List (Option D)
  | _, [], _ => []
  | k, d :: ds, ρ => (if solid d then none else if k ∈ kp then (match ρ[k]? with | some o => o | none => none) else none) :: outsOf kp (k + 1) ds ρ
def runD (n : Nat) (kp : List Nat) (s : Env → SR) (ds : List D) : FR := match s (ds.map some ++ List.replicate (n - ds.length) none) with
  | .nx ρ => .ok .non (outsOf kp 0 ds ρ)
  | .rt d ρ => .ok d (outsOf kp 0 ds ρ)
  | .err e ρ => .err e (outsOf kp 0 ds ρ)
  | _ => .stuck
section
variable {G : Gam} {W : WX} {kp : List Nat} {F F1 F2 : Addr → Prop} {H H1 H2 : Hp} {fp fp1 fp2 g g1 g2 : List Addr} {σ σ1 : L2.St} {ρ : Env}
theorem envR_none : ∀ n, EnvR G F H (List.replicate n none) (List.replicate n none) []
  | 0 => .nil
  | n + 1 => .skip (envR_none n)
theorem envR_start {n : Nat} : ∀ {vs : List V} {ds : List D} {fp : List Addr}, Rs G F H vs ds fp → EnvR G F H (vs.map some ++ List.replicate n none) (ds.map some ++ List.replicate n none) fp
  | _, _, _, .nil => envR_none n
  | _, _, _, .cons r t => .cons r (envR_start t)
theorem outs_sound : ∀ {vs : List V} {ds : List D} {k : Nat} {ρ : Env} {fp : List Addr}, vs.length = ds.length → EnvR G F H σ ρ fp → (∀ i ∈ kp, k ≤ i → i < k + vs.length → σ[i]? = some (vs[i - k]?)) →
    ∃ fo fr, (fo ++ fr).Perm fp ∧ Ro G F H vs (outsOf kp k ds ρ) fo ∧ ∃ ρ', EnvR G F H σ ρ' fr
  | [], [], k, ρ, fp, _, e, _ => ⟨[], fp, List.Perm.refl _, .nil, ρ, e⟩
  | v :: vs, d :: ds, k, ρ, fp, hl, e, hs => by
    have hs' : ∀ i ∈ kp, k + 1 ≤ i → i < k + 1 + vs.length → σ[i]? = some (vs[i - (k + 1)]?) := fun i hi h1 h2 => by
      have := hs i hi (by omega) (by simp only [List.length_cons]; omega)
      rw [this, show i - k = (i - (k + 1)) + 1 by omega]
      rfl
    have hl' : vs.length = ds.length := by simpa using hl
    have hno : ∃ fo fr, (fo ++ fr).Perm fp ∧ Ro G F H (v :: vs) (none :: outsOf kp (k + 1) ds ρ) fo ∧ ∃ ρ', EnvR G F H σ ρ' fr := by
      obtain ⟨fo, fr, p, ro, q⟩ := outs_sound (k := k + 1) hl' e hs'
      exact ⟨fo, fr, p, .none ro, q⟩
    unfold outsOf
    by_cases s : solid d = true
    · rw [if_pos s]; exact hno
    · rw [if_neg s]
      by_cases hk : k ∈ kp
      · rw [if_pos hk]
        cases h : ρ[k]? with
        | none => exact hno
        | some o =>
          cases o with
          | none => exact hno
          | some d' =>
            obtain ⟨v', f1, f2, e1, r, pm, e2⟩ := e.get h
            have e3 := hs k hk (Nat.le_refl _) (by simp only [List.length_cons]; omega)
            rw [Nat.sub_self] at e3
            rw [e3] at e1
            cases e1
            obtain ⟨fo, fr, p, ro, q⟩ := outs_sound (k := k + 1) hl' e2 hs'
            have key : outsOf kp (k + 1) ds (ρ.set k none) = outsOf kp (k + 1) ds ρ := by
              have gen : ∀ (ds : List D) (m : Nat), k < m → outsOf kp m ds (ρ.set k none) = outsOf kp m ds ρ := by
                intro ds
                induction ds with
                | nil => intro _ _; rfl
                | cons x xs ih =>
                  intro m hm
                  unfold outsOf
                  rw [ih (m + 1) (by omega), List.getElem?_set_ne (by omega)]
              exact gen ds (k + 1) (by omega)
            rw [key] at ro
            refine ⟨f1 ++ fo, fr, ?_, .some r ro, q⟩
            rw [List.append_assoc]
            exact (List.Perm.append_left f1 p).trans pm.symm
      · rw [if_neg hk]; exact hno
end

section
variable {P : Program} {w : World} {K : PySem.W.Frag} {mg : Str → Option Value} {base : Heap}
/-- THE RULE for a def -/
theorem fn_D {x qual : Str} {st : Stmt} {f : Addr} {fd : FuncData} {N ps : List Str} {k : Nat} {kp : List Nat} {s : Env → SR} (Fn : Fun K x qual st f fd) (S : FnScope N ps (defScope st)) (hkp : ∀ i ∈ kp, i < ps.length)
    (hb : ∀ (X : Cx) (W : WX), X.prog = P → X.w = w → X.K = K → X.mg = mg → X.base = base → X.N = N → X.env.scope = defScope st → X.calm = true → (∀ y, X.fn y = true) → Room k X.A → Takes X W → PassesOwn (model X.prog X.w) X.A X.env X.xe → X.stack = X.env :: X.outer → X.env.frame = some X.env.locals →
      DSs X W kp (defBody st) s) :
    FnOk P w K mg base (L2.CX P w) (k + 1) f fd ps (spN ⟨P, w, K, mg⟩ ps.length (runD N.length kp s)) := by
  refine Fn.okX S (fun vs H Q E h => h.1) (fun cdv A outer s' H vs Q E hr h => ?_)
  obtain ⟨hl, F, ds, fp, wd, rs, p⟩ := h
  refine ⟨_, (hb (cxOf (L2.CX P w) P w K mg base N qual (defScope st) f cdv A outer s' H E) (fun c d _ H => E c d H) rfl rfl rfl rfl rfl rfl rfl rfl (fun _ => rfl) hr (takes_of rfl rfl rfl rfl) PassesOwn.leaving rfl rfl).ps, ?_⟩
  have hlen := rs.length
  have hst : L2.start N vs = vs.map some ++ List.replicate (N.length - ds.length) none := by unfold L2.start; rw [hlen]
  have e0 := envR_start (n := N.length - ds.length) rs
  rw [← hst] at e0
  refine ⟨F, _, fp, wd, e0, ?_⟩
  have keep : ∀ σ', Keep kp (L2.start N vs) σ' → ∀ i ∈ kp, 0 ≤ i → i < 0 + vs.length → σ'[i]? = some (vs[i - 0]?) := fun σ' hk i hi _ h2 => by
    rw [hk i hi, hst, List.getElem?_append_left (by simp; omega), List.getElem?_map, Nat.sub_zero]
    rw [List.getElem?_eq_getElem (by omega)]
    rfl
  unfold runD at p
  cases h1 : s (ds.map some ++ List.replicate (N.length - ds.length) none) with
  | nx ρ =>
    simp only [h1] at p
    intro σ' F' H' fp' E' W' R' k'
    obtain ⟨fo, fr, pm, ro, _⟩ := outs_sound (kp := kp) (k := 0) hlen R' (keep σ' k')
    have pW := W'.perm pm.symm
    exact p .non F' H' [] fo ((E'.perm pm.symm).less fun a m => List.mem_append_left _ m) pW.left .non ro
  | rt d ρ =>
    simp only [h1] at p
    intro v σ' F' H' fv fp' E' W' R' r' k'
    obtain ⟨fo, fr, pm, ro, _⟩ := outs_sound (kp := kp) (k := 0) hlen R' (keep σ' k')
    have pm' : (fv ++ fp').Perm ((fv ++ fo) ++ fr) := by
      rw [List.append_assoc]
      exact List.Perm.append_left fv pm.symm
    exact p v F' H' fv fo ((E'.perm pm').less fun a m => List.mem_append_left _ m) (W'.perm pm').left r' ro
  | bk ρ => simp only [h1] at p
  | ct ρ => simp only [h1] at p
  | err e ρ =>
    simp only [h1] at p
    intro c d σ' F' H' fp' E' W' R' x k'
    obtain ⟨fo, fr, pm, ro, _⟩ := outs_sound (kp := kp) (k := 0) hlen R' (keep σ' k')
    have pW := W'.perm pm.symm
    exact p c d F' H' fo ((E'.perm pm.symm).less fun a m => List.mem_append_left _ m) pW.left ro x
  | stuck => simp only [h1] at p
end

section
variable {X : Cx} {W : WX} {k : Nat} {f : Addr} {fd : FuncData} {ps : List Str} {x : Str} {p pos : Pos} {e : Expr} {es : List Expr} {os : List Opd} {m : List D → FR}
theorem teL_len {G : Gam} {σ : L2.St} : ∀ (os : List Opd) (H : Hp) (Q Q' : List V → Hp → Prop), (∀ vs H, vs.length = os.length → Q vs H → Q' vs H) → teL G W os σ H Q → teL G W os σ H Q'
  | [], H, Q, Q', h, q => h [] H rfl q
  | .nm i :: os, H, Q, Q', h, q => by
    obtain ⟨v, e, q⟩ := q
    exact ⟨v, e, teL_len os H _ _ (fun vs H1 l z => h (v :: vs) H1 (by simp [l]) z) q⟩
  | .ex f :: os, H, Q, Q', h, q => wpE_mono q fun v H1 z => teL_len os H1 _ _ (fun vs H2 l z => h (v :: vs) H2 (by simp [l]) z) z
/-- f(e, ..), f a def of the text -/
theorem de_call (Fn : FnOk X.prog X.w X.K X.mg X.base (L2.CX X.prog X.w) k f fd ps (spN (gam X) ps.length m)) (hr : Room k X.A) (tk : Takes X W) (hg : Gl X x) (hm : X.mg x = some (.ref f)) (hk : PySem.W.keepIn X.K (.ref f) = true) (hb : Binds X.K fd ps [])
    (ha : PA X (e :: es) (teL (gam X) W os)) (hl : os.length = ps.length) (hdb : (x == ("__debug__" : Str)) = false := by decide) (he : starEach (e :: es) X.env = (false, eval e X.env) :: starEach es X.env := by rfl) (hpl : (backTo pos (starEach es X.env)).any (·.1) = false := by rfl) :
    DE X W (.Call (.Name x p) (e :: es) [] pos) (callD m os) :=
  ⟨(pe_callS Fn hr hg hm hk hb (fun σ => passAt tk σ) ha hdb he hpl).weak fun σ H Q q => teL_len os H _ _ (fun vs H1 l z => ⟨l.trans hl, z⟩) (callD_sound q)⟩
end
end DL

set_option Elab.async false
set_option linter.all false
set_option maxRecDepth 100000
set_option maxHeartbeats 4000000
/-! DL6: targets, while, for. -/
namespace DL
open PySem PySem.Spec PyProof.Rows L2

section
variable {G : Gam} {W : WX} {kp : List Nat} {F F1 F2 : Addr → Prop} {H H1 H2 : Hp} {fp fp1 fp2 g g1 g2 : List Addr} {σ σ1 : L2.St} {ρ : Env} {D' : Ends}
/-! ### targets -/
def TgS (G : Gam) (kp : List Nat) (t : TG) (k : D → Env → Option Env) : Prop :=
  ∀ F H fp fv σ ρ v d ρ' Q, Wd F H (fv ++ fp) → EnvR G F H σ ρ fp → R G F H v d fv → k d ρ = some ρ' →
    (∀ σ' g, Wd F H g → (∀ a ∈ g, a ∈ fv ++ fp) → EnvR G F H σ' ρ' g → Keep kp σ σ' → σ'.length = σ.length → Q σ' H) → t v σ H Q
def TgsS (G : Gam) (kp : List Nat) (t : TGs) (k : List D → Env → Option Env) : Prop :=
  ∀ F H fp fv σ ρ v d ρ' Q, Wd F H (fv ++ fp) → EnvR G F H σ ρ fp → Rs G F H v d fv → k d ρ = some ρ' →
    (∀ σ' g, Wd F H g → (∀ a ∈ g, a ∈ fv ++ fp) → EnvR G F H σ' ρ' g → Keep kp σ σ' → σ'.length = σ.length → Q σ' H) → t v σ H Q
def tgN (i : Nat) : D → Env → Option Env := fun d ρ => some (ρ.set i (some d))
def tgNil : List D → Env → Option Env := fun ds ρ => match ds with
  | [] => some ρ
  | _ => none
def tgCons (k : D → Env → Option Env) (r : List D → Env → Option Env) : List D → Env → Option Env := fun ds ρ => match ds with
  | d :: ds => (k d ρ).bind fun ρ1 => r ds ρ1
  | [] => none
def tgT (n : Nat) (r : List D → Env → Option Env) : D → Env → Option Env := fun d ρ => match d with
  | .tup ds => if ds.length = n then r ds ρ else none
  | _ => none
theorem tg_name {i : Nat} (hk : i ∉ kp) : TgS G kp (gName i) (tgN i) := by
  intro F H fp fv σ ρ v d ρ' Q w e r h q
  cases h
  obtain ⟨g, w2, sb, e2⟩ := EnvR.set e (i := i) r w
  exact q _ g w2 sb e2 (Keep.set hk) (by simp)
theorem tgs_nil : TgsS G kp gNil tgNil := by
  intro F H fp fv σ ρ v d ρ' Q w e r h q
  cases r with
  | nil =>
    cases h
    exact ⟨rfl, q σ fp w (fun _ m => m) e Keep.refl rfl⟩
  | cons _ _ => cases h
theorem tgs_cons {t : TG} {u : TGs} {k : D → Env → Option Env} {r : List D → Env → Option Env} (h1 : TgS G kp t k) (h2 : TgsS G kp u r) : TgsS G kp (gCons t u) (tgCons k r) := by
  intro F H fp fv σ ρ v d ρ' Q w e rs h q
  cases rs with
  | nil => cases h
  | @cons v1 d1 vs ds f1 f2 r1 t1 =>
    simp only [tgCons] at h
    cases hk : k d1 ρ with
    | none => rw [hk] at h; cases h
    | some ρ1 =>
      rw [hk] at h
      have w1 : Wd F H (f1 ++ fp) := w.sub (by rw [List.append_assoc]; exact List.Sublist.append_left (List.sublist_append_right _ _) _)
      refine ⟨v1, vs, rfl, h1 F H fp f1 σ ρ v1 d1 ρ1 _ w1 e r1 hk fun σ1 g1 wg sb e1 k1 l1 => ?_⟩
      have w2 : Wd F H (f2 ++ g1) := by
        have wf2 : Wd F H f2 := (w.left).right
        refine ⟨List.nodup_append.mpr ⟨wf2.nodup, wg.nodup, fun a m b n z => ?_⟩, fun a m => ?_, fun a m => ?_, w.ft⟩
        · subst z
          have hn := (w.perm (fp1 := f2 ++ (f1 ++ fp)) (by rw [← List.append_assoc]; exact List.Perm.append_right fp List.perm_append_comm)).apart a m
          exact hn (sb a n)
        · exact (List.mem_append.mp m).elim (wf2.ff a) (wg.ff a)
        · exact (List.mem_append.mp m).elim (wf2.own a) (wg.own a)
      refine h2 F H g1 f2 σ1 ρ1 vs ds ρ' Q w2 e1 t1 h fun σ2 g2 wg2 sb2 e2 k2 l2 => q σ2 g2 wg2 (fun a m => ?_) e2 (k1.trans k2) (l2.trans l1)
      rw [List.append_assoc]
      rcases List.mem_append.mp (sb2 a m) with z | z
      · exact List.mem_append_right _ (List.mem_append_left _ z)
      · rcases List.mem_append.mp (sb a z) with y | y
        · exact List.mem_append_left _ y
        · exact List.mem_append_right _ (List.mem_append_right _ y)
theorem tg_tup {n : Nat} {u : TGs} {r : List D → Env → Option Env} (h2 : TgsS G kp u r) : TgS G kp (gTup G.K n u) (tgT n r) := by
  intro F H fp fv σ ρ v d ρ' Q w e rr h q
  cases rr with
  | tup hs rs =>
    simp only [tgT] at h
    split at h
    · rename_i hl
      exact ⟨_, _, rfl, hs, by rw [rs.length]; exact hl, h2 F H fp fv σ ρ _ _ ρ' Q w e rs h q⟩
    · cases h
  | _ => cases h
/-- target = value -/
def asgG (k : D → Env → Option Env) (f : Env → Res D) : Env → SR := fun ρ => bindS (f ρ) fun d ρ' => match k d ρ' with
  | some ρ2 => .nx ρ2
  | none => .stuck
end
section
variable {X : Cx} {W : WX} {kp : List Nat} {e tg : Expr} {pos : Pos} {f : Env → Res D} {t : TG} {k : D → Env → Option Env}
theorem ds_asg (he : DE X W e f) (hg : PG X tg t) (hk : TgS (gam X) kp t k) (hs : swapsWithSole [tg] e pos.line X.env = pure false := by rfl) (hw : swappedStores [tg] e X.env = pure none := by rfl) (h1 : (assignEach [tg] X.env).map (·.2) = [assign tg X.env] := by rfl) :
    DS X W kp (.Assign [tg] e pos) (asgG k f) := ⟨(ps_asg he.pe hg hs hw h1).weak fun D σ H q =>
  wpS_bindE q fun d ρ1 v F1 H1 fv fp1 w r r1 p => by
    cases h : k d ρ1 with
    | none => simp only [h] at p; exact p.elim
    | some ρ2 =>
      simp only [h] at p
      exact hk F1 H1 fp1 fv σ ρ1 v d ρ2 D.nx w r r1 h fun σ' g wg sb e2 k2 _ => p σ' F1 H1 g ((Ext.refl w).less sb) wg e2 k2⟩
/-- a, b = x, y (plain locals) -/
def parS (i j : Nat) (f : Env → Res (List D)) : Env → SR := fun ρ => bindS (f ρ) fun ds ρ' => match ds with
  | [a, b] => .nx ((ρ'.set i (some a)).set j (some b))
  | _ => .stuck
theorem ds_par {i j : Nat} {x y : Str} {a b : Expr} {px py pt : Pos} {kt k2 pt2} {f : Env → Res (List D)} (hc : X.calm = true) (hN : X.N.Nodup) (hi : X.N[i]? = some x) (hj : X.N[j]? = some y) (hij : i ≠ j)
    (hx : X.env.scope.names.lookup x = some .local) (hy : X.env.scope.names.lookup y = some .local) (ha : PA X [a, b] (WpA (gam X) W f)) (hki : i ∉ kp) (hkj : j ∉ kp)
    (hw : swappedStores [.Tuple [.Name x px, .Name y py] kt pt] (.Tuple [a, b] k2 pt2) X.env = pure (some [x, y]))
    (hs : swapsWithSole [.Tuple [.Name x px, .Name y py] kt pt] (.Tuple [a, b] k2 pt2) pos.line X.env = pure false := by rfl) :
    DS X W kp (.Assign [.Tuple [.Name x px, .Name y py] kt pt] (.Tuple [a, b] k2 pt2) pos) (parS i j f) := ⟨(ps_par hc hN hi hj hij hx hy ha hw hs).weak fun D σ H q => by
  obtain ⟨F, ρ, fp, w, e, p⟩ := q
  refine ⟨F, ρ, fp, w, e, ?_⟩
  unfold parS at p
  cases h1 : f ρ with
  | ok ds ρ1 =>
    simp only [h1, bindS] at p
    intro vs F1 H1 fv fp1 E1 W1 R1 rs
    cases rs with
    | nil => exact p.elim
    | cons ra ta =>
      cases ta with
      | nil => exact p.elim
      | cons rb tb =>
        cases tb with
        | cons _ _ => exact p.elim
        | nil =>
          have tt := tgs_cons (G := gam X) (kp := kp) (tg_name hki) (tgs_cons (tg_name hkj) tgs_nil)
          obtain ⟨v1, r1, e1, v2, r2, e2, e3, q⟩ := tt F1 H1 fp1 _ σ ρ1 _ _ _ D.nx W1 R1 (.cons ra (.cons rb .nil)) rfl fun σ' g wg sb e2 k2 _ => p σ' F1 H1 g (E1.less sb) wg e2 k2
          cases e1
          cases e2
          exact ⟨_, _, rfl, q⟩
  | err e ρ1 => simp only [h1, bindS] at p; exact fun c d F' H' fp' E' W' R' x => p c d σ F' H' fp' E' W' R' x Keep.refl
  | stuck => simp only [h1, bindS] at p; exact p⟩

/-! ### while -/
def loopR (s : SR) (again : Env → SR) : SR := match s with
  | .nx ρ => again ρ
  | .ct ρ => again ρ
  | .bk ρ => .nx ρ
  | r => r
def whileN : Nat → (Env → Res Bool) → (Env → SR) → Env → SR
  | 0, _, _ => fun _ => .stuck
  | n + 1, c, b => fun ρ => bindS (c ρ) fun t ρ1 => if t then loopR (b ρ1) (whileN n c b) else .nx ρ1
theorem wpS_loop {G : Gam} {σ : L2.St} {H : Hp} {b again : Env → SR} {D : Ends} {N : L2.St → Hp → Prop} (h : WpS G W kp (fun ρ => loopR (b ρ) again) D σ H) (hN : ∀ σ' H', WpS G W kp again D σ' H' → N σ' H') : WpS G W kp b { D with nx := N, ct := N, bk := D.nx } σ H := by
  obtain ⟨F, ρ, fp, w, e, p⟩ := h
  refine ⟨F, ρ, fp, w, e, ?_⟩
  cases h1 : b ρ with
  | nx ρ1 => simp only [h1, loopR] at p; exact fun σ' F' H' fp' E' W' R' k' => hN σ' H' ⟨F', ρ1, fp', W', R', p.behind E' k'⟩
  | ct ρ1 => simp only [h1, loopR] at p; exact fun σ' F' H' fp' E' W' R' k' => hN σ' H' ⟨F', ρ1, fp', W', R', p.behind E' k'⟩
  | bk ρ1 => simp only [h1, loopR] at p; exact p
  | rt d ρ1 => simp only [h1, loopR] at p; exact p
  | err e ρ1 => simp only [h1, loopR] at p; exact p
  | stuck => simp only [h1, loopR] at p; exact p
theorem ds_while {c : Expr} {body : List Stmt} {n : Nat} {cf : Env → Res Bool} {b : Env → SR} (hp : PassesOwn (model X.prog X.w) X.A X.env X.xe) (hc : DT X W c cf) (hb : DSs X W kp body b) : DS X W kp (.While c body [] pos) (whileN n cf b) := ⟨(ps_while hp hc.pt hb.ps).weak fun D σ H q => by
  refine ⟨fun m σ H => WpS (gam X) W kp (whileN m cf b) D σ H, ⟨n, q⟩, fun m σ H q => ?_⟩
  cases m with
  | zero => obtain ⟨F, ρ, fp, w, e, p⟩ := q; exact p.elim
  | succ m =>
    refine wpT_mono (wpS_bindT q) fun t H1 z => ?_
    cases t with
    | true =>
      simp only [if_true] at z ⊢
      exact ⟨fun σ' H' => WpS (gam X) W kp (whileN m cf b) D σ' H', fun σ' H' q' => ⟨m, Nat.lt_succ_self m, q'⟩, wpS_loop z fun _ _ q => q⟩
    | false =>
      simp only [Bool.false_eq_true, if_false] at z ⊢
      obtain ⟨F, ρ, fp, w, e, p⟩ := z
      exact p σ F H1 fp (Ext.refl w) w e Keep.refl⟩
end

/-! ### what a for walks -/
/-- an iterator that gives out its, whatever the body does beside fa -/
structure Wlk (G : Gam) (fa : List Addr) (its : List D) (J : It) (S : (Addr → Prop) → Hp → Prop) : Prop where
  keep : ∀ F H g F' H' g', S F H → Wd F H (fa ++ g) → Ext F H g F' H' g' → S F' H'
  go : ∀ F H i d, S F H → its[i]? = some d → J.go i H
  yld : ∀ F H fp i d y H', S F H → Wd F H fp → its[i]? = some d → J.yld i H y H' → Ext F H [] F H' [] ∧ Wd F H' [] ∧ R G F H' y d []
  stop : ∀ F H, S F H → J.stop its.length H
  len : its.length ≤ sizeLine
def forL (tg : D → Env → Option Env) (b : Env → SR) : List D → Env → SR
  | [] => fun ρ => .nx ρ
  | d :: ds => fun ρ => match tg d ρ with
    | none => .stuck
    | some ρ1 => loopR (b ρ1) (forL tg b ds)
theorem for_walk {G : Gam} {W : WX} {kp : List Nat} {fa : List Addr} {its : List D} {J : It} {S : (Addr → Prop) → Hp → Prop} (wk : Wlk G fa its J S) {t : TG} {k : D → Env → Option Env} (hk : TgS G kp t k) {b : Env → SR} {D : Ends} {σ : L2.St} {H : Hp} {F : Addr → Prop} {ρ : Env} {fp : List Addr}
    (s0 : S F H) (w0 : Wd F H (fa ++ fp)) (e0 : EnvR G F H σ ρ fp) (p0 : PostS W kp G F H fp σ (forL k b its ρ) D) :
    ∃ Wm : Nat → Nat → L2.St → Hp → Prop, (∃ m, Wm 0 m σ H) ∧ ∀ i m σ H, Wm i m σ H →
      (J.stop i H ∧ D.nx σ H) ∨ (J.go i H ∧ ∃ N : L2.St → Hp → Prop, (∀ σ' H', N σ' H' → ∃ m', m' < m ∧ Wm (i + 1) m' σ' H') ∧ ∀ x H', J.yld i H x H' → t x σ H' fun σ2 H2 => WpS G W kp b { D with nx := N, ct := N, bk := D.nx } σ2 H2) := by
  refine ⟨fun i m σ H => ∃ F ρ fp, S F H ∧ Wd F H (fa ++ fp) ∧ EnvR G F H σ ρ fp ∧ PostS W kp G F H fp σ (forL k b (its.drop i) ρ) D ∧ i ≤ its.length ∧ m = its.length - i, ⟨its.length, F, ρ, fp, s0, w0, e0, by simpa using p0, Nat.zero_le _, by simp⟩, ?_⟩
  rintro i m σ H ⟨F, ρ, fp, s, w, e, p, hi, rfl⟩
  by_cases hlt : i < its.length
  · have hd : its[i]? = some its[i] := List.getElem?_eq_getElem hlt
    refine .inr ⟨wk.go F H i _ s hd, ?_⟩
    rw [List.drop_eq_getElem_cons hlt] at p
    refine ⟨fun σ' H' => ∃ F' ρ' fp', S F' H' ∧ Wd F' H' (fa ++ fp') ∧ EnvR G F' H' σ' ρ' fp' ∧ PostS W kp G F' H' fp' σ' (forL k b (its.drop (i + 1)) ρ') D, fun σ' H' ⟨F', ρ', fp', s', w', e', p'⟩ => ⟨its.length - (i + 1), by omega, F', ρ', fp', s', w', e', p', hlt, rfl⟩, fun x H1 y => ?_⟩
    obtain ⟨E1, W1, r1⟩ := wk.yld F H (fa ++ fp) i _ x H1 s w hd y
    have wn : Wd F H ((fa ++ fp) ++ []) := by rw [List.append_nil]; exact w
    have w1 := wn.beside E1 W1
    have B1 := E1.beside (show Wd F H (fp ++ []) by rw [List.append_nil]; exact w.right)
    simp only [List.append_nil] at w1 B1
    have s1 := wk.keep F H [] F H1 [] s (by rw [List.append_nil]; exact w.left) E1
    have e1 := e.keep E1 (w.nil) (show ∀ a ∈ fp, a ∉ ([] : List Addr) ∧ ¬ F a from fun a m => ⟨fun z => (nomatch z), w.right.ff a m⟩)
    simp only [forL] at p
    cases hk1 : k its[i] ρ with
    | none => simp only [hk1] at p; exact p.elim
    | some ρ1 =>
      simp only [hk1] at p
      refine hk F H1 fp [] σ ρ x _ ρ1 _ w1.right e1 r1 hk1 fun σ2 g wg sb e2 k2 _ => ?_
      have wg2 : Wd F H1 (fa ++ g) := by
        refine ⟨List.nodup_append.mpr ⟨w1.left.nodup, wg.nodup, fun a m b n z => ?_⟩, fun a m => (List.mem_append.mp m).elim (w1.left.ff a) (wg.ff a), fun a m => (List.mem_append.mp m).elim (w1.left.own a) (wg.own a), wg.ft⟩
        subst z
        exact w1.apart a m (sb a n)
      have p2 := p.behind (B1.less (g := g) fun a m => sb a m) k2
      refine ⟨F, ρ1, g, wg, e2, ?_⟩
      cases h1 : b ρ1 with
      | nx ρ3 => simp only [h1, loopR] at p2; exact fun σ' F' H' fp' E' W' R' k' => ⟨F', ρ3, fp', wk.keep F H1 g F' H' fp' s1 wg2 E', wg2.beside E' W', R', p2.behind E' k'⟩
      | ct ρ3 => simp only [h1, loopR] at p2; exact fun σ' F' H' fp' E' W' R' k' => ⟨F', ρ3, fp', wk.keep F H1 g F' H' fp' s1 wg2 E', wg2.beside E' W', R', p2.behind E' k'⟩
      | bk ρ3 => simp only [h1, loopR] at p2; exact p2
      | rt d ρ3 => simp only [h1, loopR] at p2; exact p2
      | err e ρ3 => simp only [h1, loopR] at p2; exact p2
      | stuck => simp only [h1, loopR] at p2; exact p2
  · have ei : i = its.length := by omega
    subst ei
    rw [List.drop_length] at p
    exact .inl ⟨wk.stop F H s, p σ F H fp (Ext.refl w.right) w.right e Keep.refl⟩

/-! values that are walked -/
def ItR (X : Cx) (tg : Expr) (r : V → Hp → (It → Hp → Prop) → Prop) : Prop :=
  ∀ (pins : List (Addr × Obj)) (s : Shared) (σ : L2.St) (H : Hp) (x : V) (v : Value) (Q : It → Hp → Prop), Inv X pins σ H s → RelV x v → r x H Q → wpAny (model X.prog X.w) X.A (pyIter v) (PIE X pins σ tg Q) X.xe s
theorem pi_of {X : Cx} {tg e : Expr} {te : TE} {r : V → Hp → (It → Hp → Prop) → Prop} (he : PE X e te) (hr : ItR X tg r) : PI X tg e (fun σ H Q => te σ H fun x H1 => r x H1 Q) :=
  ⟨fun pins s σ H Q I h => thn (he.run pins s σ H _ I h) fun v s1 ⟨x, H1, I1, r1, q1⟩ => hr pins s1 σ H1 x v Q I1 r1 q1⟩
def rList (K : PySem.W.Frag) : V → Hp → (It → Hp → Prop) → Prop := fun x H Q => ∃ a xs, x = .ref a ∧ SqL K H a xs ∧ (xs.length ≤ sizeLine → Q (Itl K a) H)
def rTupI (K : PySem.W.Frag) : V → Hp → (It → Hp → Prop) → Prop := fun x H Q => ∃ a xs, x = .ref a ∧ SqT K H a xs ∧ (xs.length ≤ sizeLine → Q (Itt K a) H)
def rStrI : V → Hp → (It → Hp → Prop) → Prop := fun v H Q => ∃ x, v = .str x ∧ Q (Its x) H
section
variable {X : Cx} {tg : Expr}
theorem it_list : ItR X tg (rList X.K) := by
  intro pins s σ H x v Q I r h
  obtain ⟨a, xs, e, hq, q⟩ := h
  subst e
  cases r
  obtain ⟨its, rv, p, hz⟩ := I.list hq
  refine wpAny_pyIter_list p.isList ?_
  refine ⟨s.heap.objs.size, [s.heap.objs.size], _, _, H, rfl, I.kept (t' := s.toks) fun b o e => Heap.get?_push_of_some _ e, turn_list a _, ⟨_, Heap.get?_push_size _ rfl, rfl, rfl⟩, fun b hb => ?_, q hz⟩
  have e : b = s.heap.objs.size := by simpa using hb
  subst e
  exact I.fpOk (Nat.le_refl _) (I.hok.fresh (Nat.le_refl _))
theorem it_tup : ItR X tg (rTupI X.K) := by
  intro pins s σ H x v Q I r h
  obtain ⟨a, xs, e, hq, q⟩ := h
  subst e
  cases r
  obtain ⟨its, rv, p, hz⟩ := I.tuple hq
  refine wpAny_pyIter_tuple (show s.heap.IsTuple a its.toArray from p) ?_
  refine ⟨s.heap.objs.size, [s.heap.objs.size], _, _, H, rfl, I.kept (t' := s.toks) fun b o e => Heap.get?_push_of_some _ e, turn_tuple a _, ⟨_, Heap.get?_push_size _ rfl, rfl, rfl⟩, fun b hb => ?_, q hz⟩
  have e : b = s.heap.objs.size := by simpa using hb
  subst e
  exact I.fpOk (Nat.le_refl _) (I.hok.fresh (Nat.le_refl _))
end
end DL

set_option Elab.async false
set_option linter.all false
set_option maxRecDepth 100000
set_option maxHeartbeats 4000000
/-! DL7: what a for walks. -/
namespace DL
open PySem PySem.Spec PyProof.Rows L2

/-! ### the keys of a dict -/
def rDictI : V → Hp → (It → Hp → Prop) → Prop := fun x H Q => ∃ a, x = .ref a ∧ ((∃ es, (∃ o, H a = some (.frz o (.dK es)) ∧ (es.length ≤ sizeLine → Q (Itk a o es) H)) ∨ (H a = some (.dK es) ∧ (es.length ≤ sizeLine → ∀ od, Q (Itk a od es) (upd H a (.frz od (.dK es)))))) ∨
  ∃ es, (∃ o, H a = some (.frz o (.dT es)) ∧ (es.length ≤ sizeLine → Q (Itkt a o es) H)) ∨ (H a = some (.dT es) ∧ (es.length ≤ sizeLine → ∀ od, Q (Itkt a od es) (upd H a (.frz od (.dT es))))))
theorem it_frzd {X : Cx} {tg : Expr} {pins : List (Addr × Obj)} {s : Shared} {σ : L2.St} {H : Hp} {Q : It → Hp → Prop} {a : Addr} {o : Obj} {es : List (Key × V)} (I : Inv X pins σ H s) (h : H a = some (.frz o (.dK es))) (q : es.length ≤ sizeLine → Q (Itk a o es) H) :
    wpAny (model X.prog X.w) X.A (pyIter (.ref a)) (PIE X pins σ tg Q) X.xe s := by
  have hz : es.length ≤ sizeLine := (I.hok a _ h).2.1
  obtain ⟨hs, hgd, hx, des, ep, vs, hdt, hsz, kv, hm⟩ := I.frzK h
  refine iter_keys hs hgd hx hdt (pi_one (tk := s.toks) I _ (turn_keys _ hdt) ⟨_, Heap.get?_push_size _ rfl, rfl, ?_⟩ (q hz))
  rw [hsz] <;> rfl
theorem it_frzt {X : Cx} {tg : Expr} {pins : List (Addr × Obj)} {s : Shared} {σ : L2.St} {H : Hp} {Q : It → Hp → Prop} {a : Addr} {o : Obj} {es : List (List Key × V)} (I : Inv X pins σ H s) (h : H a = some (.frz o (.dT es))) (q : es.length ≤ sizeLine → Q (Itkt a o es) H) :
    wpAny (model X.prog X.w) X.A (pyIter (.ref a)) (PIE X pins σ tg Q) X.xe s := by
  have hz : es.length ≤ sizeLine := (I.hok a _ h).2.1
  obtain ⟨hs, hgd, hx, des, ep, hdt, hsz, ent⟩ := I.frzT h
  refine iter_keys hs hgd hx hdt (pi_one (tk := s.toks) I _ (turn_keysT _ hdt) ⟨_, Heap.get?_push_size _ rfl, rfl, ?_⟩ (q hz))
  rw [hsz] <;> rfl
section
variable {X : Cx} {tg : Expr}
theorem it_dict : ItR X tg rDictI := by
  intro pins s σ H x v Q I r h
  obtain ⟨a, e, h⟩ := h
  subst e
  cases r
  rcases h with ⟨es, h | h⟩ | ⟨es, h | h⟩
  · obtain ⟨o, h, q⟩ := h
    exact it_frzd I h q
  · obtain ⟨h, q⟩ := h
    obtain ⟨od, I2⟩ := I.lock h trivial
    exact it_frzd I2 upd_same (fun hz => q hz od)
  · obtain ⟨o, h, q⟩ := h
    exact it_frzt I h q
  · obtain ⟨h, q⟩ := h
    obtain ⟨od, I2⟩ := I.lock h trivial
    exact it_frzt I2 upd_same (fun hz => q hz od)
theorem it_str : ItR X tg rStrI := by
  intro pins s σ H x v Q I r h
  obtain ⟨z, e, q⟩ := h
  subst e
  obtain ⟨t, rfl⟩ := r
  cases ha : z.cps.all (· < 128)
  · exact wpAny_pyIter_wide ha (pi_one (tk := s.toks) I _ (turn_str _ z t "str_iterator" (.inr rfl)) ⟨_, Heap.get?_push_size _ rfl, rfl, rfl⟩ q)
  · exact wpAny_pyIter_ascii ha (pi_one (tk := s.toks) I _ (turn_str _ z t "str_ascii_iterator" (.inl rfl)) ⟨_, Heap.get?_push_size _ rfl, rfl, rfl⟩ q)
theorem ItR.or {r r' : V → Hp → (It → Hp → Prop) → Prop} (h : ItR X tg r) (h' : ItR X tg r') : ItR X tg (fun x H Q => r x H Q ∨ r' x H Q) := by
  intro pins s σ H x v Q I rv q
  exact q.elim (h pins s σ H x v Q I rv) (h' pins s σ H x v Q I rv)
def rAnyI (K : PySem.W.Frag) : V → Hp → (It → Hp → Prop) → Prop := fun x H Q => rList K x H Q ∨ rTupI K x H Q ∨ rStrI x H Q ∨ rDictI x H Q
theorem it_any : ItR X tg (rAnyI X.K) := it_list.or (it_tup.or (it_str.or it_dict))
end

/-- what comes of walking a value -/
def iterD : D → Option (List D)
  | .lst _ xs => some (frzs xs)
  | .tup xs => some (frzs xs)
  | .str s => if s.cps.size ≤ sizeLine then some (s.cps.toList.map fun c => .str ⟨#[c]⟩) else none
  | .dic _ kvs => some (kvs.map fun p => keyD p.1)
  | _ => none
def WpI (G : Gam) (W : WX) (src : Env → Res (List D)) : TI := fun σ H Q => ∃ F ρ fp, Wd F H fp ∧ EnvR G F H σ ρ fp ∧ match src ρ with
  | .ok its ρ' => ∀ J S F' H' fa fp', Ext F H fp F' H' (fa ++ fp') → Wd F' H' (fa ++ fp') → EnvR G F' H' σ ρ' fp' → Wlk G fa its J S → S F' H' → Q J H'
  | .err e ρ' => PostE W G F H fp σ e ρ'
  | .stuck => False
structure DI (X : Cx) (W : WX) (tg iter : Expr) (src : Env → Res (List D)) : Prop where
  pi : PI X tg iter (WpI (gam X) W src)
theorem _root_.L2.PI.weak {X : Cx} {tg e : Expr} {t t' : TI} (h : PI X tg e t) (m : ∀ σ H Q, t' σ H Q → t σ H Q) : PI X tg e t' := ⟨fun pins s σ H Q I q => h.run pins s σ H Q I (m σ H Q q)⟩
def srcV (f : Env → Res D) : Env → Res (List D) := fun ρ => (f ρ).bind fun d ρ' => match iterD d with
  | some its => .ok its ρ'
  | none => .stuck
section
variable {G : Gam} {W : WX} {kp : List Nat} {F F1 F2 : Addr → Prop} {H H1 H2 : Hp} {fp fp1 fp2 g g1 g2 : List Addr} {σ σ1 : L2.St} {ρ : Env}
theorem Rs.getA : ∀ {vs : List V} {ds : List D} {fp : List Addr} {i : Nat} {d : D}, Rs G F H vs ds fp → ds[i]? = some d → ∃ v f1, vs[i]? = some v ∧ R G F H v d f1 ∧ ∀ a ∈ f1, a ∈ fp
  | _, _, _, _, _, .nil, e => by simp at e
  | _, _, _, 0, d, .cons r t, e => by simp at e; subst e; exact ⟨_, _, rfl, r, fun a m => List.mem_append_left _ m⟩
  | _, _, _, i + 1, d, .cons r t, e => by
    obtain ⟨v, f1, h1, h2, h3⟩ := Rs.getA (i := i) (d := d) t (by simpa using e)
    exact ⟨v, f1, by simpa using h1, h2, fun a m => List.mem_append_right _ (h3 a m)⟩
theorem nil_of {f1 : List Addr} (h : ∀ a ∈ f1, a ∈ ([] : List Addr)) : f1 = [] := by
  cases f1 with
  | nil => rfl
  | cons a l => exact absurd (h a List.mem_cons_self) (by simp)
theorem Rs.get {vs : List V} {ds : List D} {i : Nat} {d : D} (h : Rs G F H vs ds []) (e : ds[i]? = some d) : ∃ v, vs[i]? = some v ∧ R G F H v d [] := by
  obtain ⟨v, f1, h1, h2, h3⟩ := h.getA e
  rw [nil_of h3] at h2
  exact ⟨v, h1, h2⟩
theorem wlk_list {a : Addr} {vs : List V} {ds : List D} (hl : ds.length ≤ sizeLine) : Wlk G [] ds (Itl G.K a) (fun F H => SqLF G.K F H a vs ∧ Rs G F H vs ds []) where
  keep := fun F H g F' H' g' ⟨s, r⟩ w E => ⟨SqLF.ext s E w, r.keep E w fun _ m => nomatch m⟩
  go := fun F H i d ⟨s, r⟩ h => by
    obtain ⟨v, e, _⟩ := r.get h
    exact ⟨vs, v, s.sq, e⟩
  yld := fun F H fp i d y H' ⟨s, r⟩ w h hy => by
    obtain ⟨rfl, hy⟩ := hy
    obtain ⟨v, e, rv⟩ := r.get h
    have := hy vs s.sq
    rw [e] at this
    cases this
    exact ⟨Ext.refl w.nil, w.nil, rv⟩
  stop := fun F H ⟨s, r⟩ => ⟨vs, s.sq, by rw [r.length]; exact Nat.le_refl _⟩
  len := hl
theorem wlk_tup {a : Addr} {vs : List V} {ds : List D} (hl : ds.length ≤ sizeLine) : Wlk G [] ds (Itt G.K a) (fun F H => SqT G.K H a vs ∧ Rs G F H vs ds []) where
  keep := fun F H g F' H' g' ⟨s, r⟩ w E => ⟨SqT.ext s E w, r.keep E w fun _ m => nomatch m⟩
  go := fun F H i d ⟨s, r⟩ h => by
    obtain ⟨v, e, _⟩ := r.get h
    exact ⟨vs, v, s, e⟩
  yld := fun F H fp i d y H' ⟨s, r⟩ w h hy => by
    obtain ⟨rfl, hy⟩ := hy
    obtain ⟨v, e, rv⟩ := r.get h
    have := hy vs s
    rw [e] at this
    cases this
    exact ⟨Ext.refl w.nil, w.nil, rv⟩
  stop := fun F H ⟨s, r⟩ => ⟨vs, s, by rw [r.length]; exact Nat.le_refl _⟩
  len := hl
theorem wlk_str {x : Str} (hl : x.cps.size ≤ sizeLine) : Wlk G [] (x.cps.toList.map fun c => .str ⟨#[c]⟩) (Its x) (fun _ _ => True) where
  keep := fun _ _ _ _ _ _ _ _ _ => trivial
  go := fun F H i d _ h => by
    have := (List.getElem?_eq_some_iff.mp h).1
    show i < x.cps.size
    simpa using this
  yld := fun F H fp i d y H' _ w h hy => by
    obtain ⟨rfl, c, hc, rfl⟩ := hy
    rw [List.getElem?_map] at h
    have hc' : x.cps.toList[i]? = some c := by simpa using hc
    rw [hc'] at h
    cases h
    exact ⟨Ext.refl w.nil, w.nil, .str _⟩
  stop := fun F H _ => by show x.cps.size ≤ _; simp
  len := by simpa using hl
theorem Re.keys : ∀ {es : List (DKey × V)} {kvs : List (DKey × D)} {fp : List Addr}, Re G F H es kvs fp → kvs.map (·.1) = es.map (·.1)
  | _, _, _, .nil => rfl
  | _, _, _, .cons _ t => by simp [Re.keys t]
theorem Re.length {es : List (DKey × V)} {kvs : List (DKey × D)} {fp : List Addr} (h : Re G F H es kvs fp) : es.length = kvs.length := by
  have := congrArg List.length h.keys
  simpa using this.symm
theorem kV_R {k : Key} : R G F H (kV k) (kD k) [] := by
  cases k
  · exact .int _
  · exact .str _
theorem kVs_Rs : ∀ {ks : List Key}, Rs G F H (ks.map kV) (ks.map kD) []
  | [] => .nil
  | k :: ks => .cons (f1 := []) (f2 := []) kV_R kVs_Rs
theorem key_of_at {es : List (Key × V)} {kvs : List (DKey × D)} {fp : List Addr} (r : Re G F H (es.map tagK) kvs fp) {i : Nat} {d : D} {k : Key} {v : V} (h : (kvs.map fun p => keyD p.1)[i]? = some d) (he : es[i]? = some (k, v)) : d = kD k := by
  have e : (kvs.map fun p => keyD p.1) = es.map fun p => kD p.1 := by
    have := congrArg (List.map keyD) r.keys
    simp only [List.map_map] at this
    simpa [Function.comp_def, tagK, keyD] using this
  rw [e, List.getElem?_map, he] at h
  cases h; rfl
theorem key_of_atT {es : List (List Key × V)} {kvs : List (DKey × D)} {fp : List Addr} (r : Re G F H (es.map tagT) kvs fp) {i : Nat} {d : D} {k : List Key} {v : V} (h : (kvs.map fun p => keyD p.1)[i]? = some d) (he : es[i]? = some (k, v)) : d = .tup (k.map kD) := by
  have e : (kvs.map fun p => keyD p.1) = es.map fun p => .tup (p.1.map kD) := by
    have := congrArg (List.map keyD) r.keys
    simp only [List.map_map] at this
    simpa [Function.comp_def, tagT, keyD] using this
  rw [e, List.getElem?_map, he] at h
  cases h; rfl
theorem wlk_dict {a : Addr} {o : Obj} {es : List (Key × V)} {kvs : List (DKey × D)} (hl : kvs.length ≤ sizeLine) : Wlk G [] (kvs.map fun p => keyD p.1) (Itk a o es) (fun F H => F a ∧ H a = some (.frz o (.dK es)) ∧ Re G F H (es.map tagK) kvs []) where
  keep := fun F H g F' H' g' ⟨f, s, r⟩ w E => ⟨E.mono a f, E.stay s (w.nin f) (fun z => z), r.keep E w fun _ m => nomatch m⟩
  go := fun F H i d ⟨f, s, r⟩ h => ⟨s, by
    have := (List.getElem?_eq_some_iff.mp h).1
    rw [List.length_map, ← r.length, List.length_map] at this
    exact this⟩
  yld := fun F H fp i d y H' ⟨f, s, r⟩ w h hy => by
    obtain ⟨rfl, k, v, he, rfl⟩ := hy
    rw [key_of_at r h he]
    exact ⟨Ext.refl w.nil, w.nil, kV_R⟩
  stop := fun F H ⟨f, s, r⟩ => ⟨s, by
    have := r.length
    rw [List.length_map] at this ⊢
    rw [this]; exact Nat.le_refl _⟩
  len := by simpa using hl
theorem wlk_dictT {a : Addr} {o : Obj} {es : List (List Key × V)} {kvs : List (DKey × D)} (hl : kvs.length ≤ sizeLine) : Wlk G [] (kvs.map fun p => keyD p.1) (Itkt a o es) (fun F H => F a ∧ H a = some (.frz o (.dT es)) ∧ Re G F H (es.map tagT) kvs []) where
  keep := fun F H g F' H' g' ⟨f, s, r⟩ w E => ⟨E.mono a f, E.stay s (w.nin f) (fun z => z), r.keep E w fun _ m => nomatch m⟩
  go := fun F H i d ⟨f, s, r⟩ h => ⟨s, by
    have := (List.getElem?_eq_some_iff.mp h).1
    rw [List.length_map, ← r.length, List.length_map] at this
    exact this⟩
  yld := fun F H fp i d y H' ⟨f, s, r⟩ w h hy => by
    obtain ⟨rfl, k, v, q, he, rfl, hq⟩ := hy
    rw [key_of_atT r h he]
    exact ⟨Ext.refl w.nil, w.nil, .tup (SqT.of hq) kVs_Rs⟩
  stop := fun F H ⟨f, s, r⟩ => ⟨s, by
    have := r.length
    rw [List.length_map] at this ⊢
    rw [this]; exact Nat.le_refl _⟩
  len := by simpa using hl
theorem frzE_keysD (kvs : List (DKey × D)) : (frzE kvs).map (fun p => keyD p.1) = kvs.map fun p => keyD p.1 := by
  have := congrArg (List.map keyD) (frzE_keys kvs)
  simpa [Function.comp_def] using this
/-- locking a shared dict -/
theorem lock_ext {a : Addr} {od : Obj} {u : HO} (f : F a) (h : H a = some u) (x : IsExt u) (w : Wd F H fp) : Ext F H fp F (upd H a (.frz od u)) fp ∧ Wd F (upd H a (.frz od u)) fp := by
  have na : ∀ b ∈ fp, b ≠ a := fun b m z => w.ff b m (by rw [z]; exact f)
  have nn : ∀ b, H b ≠ none → upd H a (.frz od u) b ≠ none := fun b hb => by
    by_cases e : b = a
    · subst e; rw [upd_same]; intro z; cases z
    · rw [upd_ne e]; exact hb
  refine ⟨⟨fun _ h => h, fun b o hb n => ?_, fun b m => .inl m, fun b h => .inl h, nn⟩, ⟨w.nodup, w.ff, fun b m => ?_, fun b fb => nn b (w.ft b fb)⟩⟩
  · by_cases e : b = a
    · subst e
      rw [h] at hb; cases hb
      exact .inr ⟨f, x, od, upd_same⟩
    · exact .inl (by rw [upd_ne e]; exact hb)
  · rw [upd_ne (na b m)]; exact w.own b m
/-- walking a shared value -/
theorem walk_value {x : V} {d : D} {its : List D} {Q : It → Hp → Prop} (r : R G F H x (frz d) []) (hi : iterD d = some its) (w : Wd F H fp)
    (q : ∀ J S F' H', Ext F H fp F' H' fp → Wd F' H' fp → (∀ σ ρ, EnvR G F H σ ρ fp → EnvR G F' H' σ ρ fp) → Wlk G [] its J S → S F' H' → Q J H') : rAnyI G.K x H Q := by
  cases d with
  | lst u xs =>
    simp only [iterD, Option.some.injEq] at hi
    subst hi
    rw [frz] at r
    cases r with
    | lstF hs rs => exact .inl ⟨_, _, rfl, hs.sq, fun hz => q _ _ F H (Ext.refl w) w (fun _ _ e => e) (wlk_list (by rw [← rs.length]; exact hz)) ⟨hs, rs⟩⟩
  | tup xs =>
    simp only [iterD, Option.some.injEq] at hi
    subst hi
    rw [frz] at r
    cases r with
    | tup hs rs => exact .inr (.inl ⟨_, _, rfl, hs, fun hz => q _ _ F H (Ext.refl w) w (fun _ _ e => e) (wlk_tup (by rw [← rs.length]; exact hz)) ⟨hs, rs⟩⟩)
  | str z =>
    simp only [iterD] at hi
    split at hi
    · rename_i hz
      cases hi
      cases r with
      | str => exact .inr (.inr (.inl ⟨_, rfl, q _ _ F H (Ext.refl w) w (fun _ _ e => e) (wlk_str hz) trivial⟩))
    · cases hi
  | dic u kvs =>
    simp only [iterD, Option.some.injEq] at hi
    subst hi
    rw [frz] at r
    cases r with
    | @dicF a es _ f hs rs hn =>
      have hlen : es.length = (frzE kvs).length := by rw [← rs.length, List.length_map]
      refine .inr (.inr (.inr ⟨a, rfl, .inl ⟨es, ?_⟩⟩))
      rw [← frzE_keysD] at q
      rcases hs with hs | ⟨o, hs⟩
      · refine .inr ⟨hs, fun hz od => ?_⟩
        obtain ⟨E, w2⟩ := lock_ext (od := od) f hs trivial w
        exact q _ _ F _ E w2 (fun σ ρ e => by
          have El := (lock_ext (od := od) f hs trivial w.nil).1
          exact e.keep El w.nil fun b m => ⟨fun z => (nomatch z), w.ff b m⟩) (wlk_dict (by rw [← hlen]; exact hz)) ⟨f, upd_same, rs.keep (lock_ext (od := od) f hs trivial w.nil).1 w.nil fun _ m => nomatch m⟩
      · exact .inl ⟨o, hs, fun hz => q _ _ F H (Ext.refl w) w (fun _ _ e => e) (wlk_dict (by rw [← hlen]; exact hz)) ⟨f, hs, rs⟩⟩
    | @ditF a es _ f hs rs hn _ =>
      have hlen : es.length = (frzE kvs).length := by rw [← rs.length, List.length_map]
      refine .inr (.inr (.inr ⟨a, rfl, .inr ⟨es, ?_⟩⟩))
      rw [← frzE_keysD] at q
      rcases hs with hs | ⟨o, hs⟩
      · refine .inr ⟨hs, fun hz od => ?_⟩
        obtain ⟨E, w2⟩ := lock_ext (od := od) f hs trivial w
        exact q _ _ F _ E w2 (fun σ ρ e => by
          have El := (lock_ext (od := od) f hs trivial w.nil).1
          exact e.keep El w.nil fun b m => ⟨fun z => (nomatch z), w.ff b m⟩) (wlk_dictT (by rw [← hlen]; exact hz)) ⟨f, upd_same, rs.keep (lock_ext (od := od) f hs trivial w.nil).1 w.nil fun _ m => nomatch m⟩
      · exact .inl ⟨o, hs, fun hz => q _ _ F H (Ext.refl w) w (fun _ _ e => e) (wlk_dictT (by rw [← hlen]; exact hz)) ⟨f, hs, rs⟩⟩
  | _ => cases hi
end
theorem di_val {X : Cx} {W : WX} {tg e : Expr} {f : Env → Res D} (h : DE X W e f) : DI X W tg e (srcV f) := ⟨(pi_of h.pe it_any).weak fun σ H Q q => by
  obtain ⟨F, ρ, fp, w, e, p⟩ := q
  refine ⟨F, ρ, fp, w, e, ?_⟩
  unfold srcV at p
  cases h1 : f ρ with
  | ok d ρ1 =>
    simp only [h1, Res.bind_ok] at p
    intro v F1 H1 fv fp1 E1 W1 R1 r1
    cases h2 : iterD d with
    | none => simp only [h2] at p
    | some its =>
      simp only [h2] at p
      have r2 := r1.freeze (g := fv) fun _ m => m
      refine walk_value (G := gam X) r2 h2 W1.freeze fun J S F' H' E2 W2 eK wk s => ?_
      exact p J S F' H' [] fp1 ((E1.trans (Ext.freeze W1)).trans E2) W2 (eK σ ρ1 (R1.mono fun _ z => Or.inl z)) wk s
  | err e ρ1 => simp only [h1, Res.bind_err] at p; exact p
  | stuck => simp only [h1, Res.bind_stuck] at p⟩
/-- for target in iter: body -/
def forS (src : Env → Res (List D)) (k : D → Env → Option Env) (b : Env → SR) : Env → SR := fun ρ => bindS (src ρ) fun its ρ' => forL k b its ρ'
theorem ds_for {X : Cx} {W : WX} {kp : List Nat} {tg iter : Expr} {body : List Stmt} {pos : Pos} {src : Env → Res (List D)} {t : TG} {k : D → Env → Option Env} {b : Env → SR} (hp : PassesOwn (model X.prog X.w) X.A X.env X.xe) (hc : X.calm = true) (hi : DI X W tg iter src) (hg : PG X tg t) (hk : TgS (gam X) kp t k) (hb : DSs X W kp body b)
    (hs : ∀ x, foldedSetIterable iter X.env x = pure x := by intro _; rfl) : DS X W kp (.For tg iter body [] pos) (forS src k b) := ⟨(ps_for hp hc hi.pi hg hb.ps hs).weak fun D σ H q => by
  obtain ⟨F, ρ, fp, w, e, p⟩ := q
  refine ⟨F, ρ, fp, w, e, ?_⟩
  unfold forS at p
  cases h1 : src ρ with
  | ok its ρ1 =>
    simp only [h1, bindS] at p
    intro J S F1 H1 fa fp1 E1 W1 R1 wk s
    exact for_walk wk hk s W1 R1 (p.behind (E1.less fun a m => List.mem_append_right _ m) Keep.refl)
  | err e ρ1 => simp only [h1, bindS] at p; exact fun c d F' H' fp' E' W' R' x => p c d σ F' H' fp' E' W' R' x Keep.refl
  | stuck => simp only [h1, bindS] at p; exact p⟩
end DL

set_option Elab.async false
set_option linter.all false
set_option maxRecDepth 100000
set_option maxHeartbeats 4000000
/-! DL8: list comprehensions. -/
namespace DL
open PySem PySem.Spec PyProof.Rows L2

def wipeE (ρ : Env) : List Nat → Env
  | [] => ρ
  | v :: vs => (wipeE ρ vs).set v none
/-- the names of the block are as they were ahead of it (where that is not owned) -/
def restE (ρ0 ρ : Env) : List Nat → Env
  | [] => ρ
  | v :: vs => match ρ0[v]? with
    | some (some d) => if solid d then (restE ρ0 ρ vs).set v (some d) else restE ρ0 ρ vs
    | _ => restE ρ0 ρ vs
def Res.nox {α : Type} (r : Res α) : Res α := match r with
  | .err _ _ => .stuck
  | r => r
def compL (k : D → Env → Option Env) (t : Env → Res Bool) (f : Env → Res D) (vs : List Nat) : List D → Env → Res (List D)
  | [] => fun ρ => .ok [] ρ
  | d :: ds => fun ρ => match k d ρ with
    | none => .stuck
    | some ρ1 => (t ρ1).bind fun b ρ2 => if b then (f ρ2).bind fun y ρ3 => (compL k t f vs ds (wipeE ρ3 vs)).bind fun ys ρ4 => .ok (frz y :: ys) ρ4
      else compL k t f vs ds (wipeE ρ2 vs)
def compE (src : Env → Res (List D)) (k : D → Env → Option Env) (t : Env → Res Bool) (f : Env → Res D) (vs : List Nat) : Env → Res D := fun ρ =>
  (src ρ).bind fun its ρ0 => (compL k t f vs its (wipeE ρ0 vs)).nox.bind fun ys ρ' => .ok (.lst true ys) (restE ρ0 ρ' vs)
def yesB : Env → Res Bool := fun ρ => .ok true ρ

section
variable {G : Gam} {W : WX} {kp : List Nat} {F F1 F2 : Addr → Prop} {H H1 H2 : Hp} {fp fp1 fp2 g g1 g2 : List Addr} {σ σ1 : L2.St} {ρ : Env}
theorem EnvR.congr {σ σ' : L2.St} {ρ : Env} {fp : List Addr} (h : EnvR G F H σ ρ fp) : σ'.length = σ.length → (∀ (i : Nat) (d : D), ρ[i]? = some (some d) → σ'[i]? = σ[i]?) → EnvR G F H σ' ρ fp := by
  induction h generalizing σ' with
  | nil => intro hl _; rw [List.length_eq_zero_iff.mp hl]; exact .nil
  | skip _ ih =>
    intro hl hs
    cases σ' with
    | nil => simp at hl
    | cons o σ' => exact .skip (ih (by simpa using hl) fun i d e => by simpa using hs (i + 1) d (by simpa using e))
  | @cons _ d0 _ _ _ _ r _ ih =>
    intro hl hs
    cases σ' with
    | nil => simp at hl
    | cons o σ' =>
      have h0 := hs 0 d0 (by simp)
      simp at h0
      subst h0
      exact .cons r (ih (by simpa using hl) fun i d e => by simpa using hs (i + 1) d (by simpa using e))
theorem wipeE_length (ρ : Env) : ∀ vs, (wipeE ρ vs).length = ρ.length
  | [] => rfl
  | v :: vs => by simp [wipeE, wipeE_length ρ vs]
theorem wipeE_at {ρ : Env} {i : Nat} {d : D} : ∀ {vs : List Nat}, (wipeE ρ vs)[i]? = some (some d) → ρ[i]? = some (some d) ∧ i ∉ vs
  | [], h => ⟨h, by simp⟩
  | v :: vs, h => by
    unfold wipeE at h
    by_cases hi : v = i
    · subst hi
      by_cases hv : v < (wipeE ρ vs).length
      · rw [List.getElem?_set_self hv] at h; cases h
      · rw [List.getElem?_eq_none (by simpa using hv)] at h; cases h
    · rw [List.getElem?_set_ne hi] at h
      obtain ⟨h1, h2⟩ := wipeE_at h
      exact ⟨h1, by simp only [List.mem_cons, not_or]; exact ⟨fun e => hi e.symm, h2⟩⟩
theorem EnvR.wipe {vs : List Nat} (h : EnvR G F H σ ρ fp) : ∃ g, g.Sublist fp ∧ EnvR G F H (L2.wipe σ vs) (wipeE ρ vs) g := by
  have key : ∀ vs : List Nat, ∃ g, g.Sublist fp ∧ EnvR G F H σ (wipeE ρ vs) g := by
    intro vs
    induction vs with
    | nil => exact ⟨fp, List.Sublist.refl _, h⟩
    | cons v vs ih =>
      obtain ⟨g, s, e⟩ := ih
      obtain ⟨g2, s2, e2⟩ := e.drop v
      exact ⟨g2, s2.trans s, e2⟩
  obtain ⟨g, s, e⟩ := key vs
  exact ⟨g, s, e.congr (L2.wipe_length σ vs) fun i d hd => L2.wipe_out (wipeE_at hd).2⟩
/-- a wiped frame, told of the whole one -/
theorem EnvR.unwipe {vs : List Nat} (h : EnvR G F H (L2.wipe σ vs) ρ fp) (hn : ∀ i d, ρ[i]? = some (some d) → i ∉ vs) : EnvR G F H σ ρ fp :=
  h.congr (L2.wipe_length σ vs).symm fun i d hd => (L2.wipe_out (hn i d hd)).symm
theorem restE_out {ρ0 ρ : Env} {i : Nat} : ∀ {vs : List Nat}, i ∉ vs → (restE ρ0 ρ vs)[i]? = ρ[i]?
  | [], _ => rfl
  | v :: vs, h => by
    simp only [List.mem_cons, not_or] at h
    have ih := restE_out (ρ0 := ρ0) (ρ := ρ) h.2
    unfold restE
    split
    · split
      · rw [List.getElem?_set_ne (Ne.symm h.1)]; exact ih
      · exact ih
    · exact ih
/-- no more than fp, in any order -/
def Le (F : Addr → Prop) (H : Hp) (g fp : List Addr) : Prop := (∀ x, Wd F H (x ++ fp) → Wd F H (x ++ g)) ∧ ∀ a ∈ g, a ∈ fp
theorem Le.refl : Le F H fp fp := ⟨fun _ h => h, fun _ h => h⟩
theorem Le.trans (a : Le F H g1 g) (b : Le F H g fp) : Le F H g1 fp := ⟨fun x h => a.1 x (b.1 x h), fun x h => b.2 x (a.2 x h)⟩
theorem Le.sub (s : g.Sublist fp) : Le F H g fp := ⟨fun x h => h.sub (List.Sublist.append_left s x), fun a m => s.subset m⟩
theorem Le.perm (p : g.Perm fp) : Le F H g fp := ⟨fun x h => h.perm (List.Perm.append_left x p.symm), fun a m => p.mem_iff.mp m⟩
theorem EnvR.rest {ρ0 : Env} : ∀ (vs : List Nat), (∀ v ∈ vs, ∀ d, ρ0[v]? = some (some d) → solid d = true → ∃ x, σ[v]? = some (some x) ∧ R G F H x d []) → EnvR G F H σ ρ fp →
    ∃ g, Le F H g fp ∧ EnvR G F H σ (restE ρ0 ρ vs) g
  | [], _, e => ⟨fp, .refl, e⟩
  | v :: vs, hs, e => by
    obtain ⟨g, s, e1⟩ := EnvR.rest vs (fun w hw => hs w (List.mem_cons_of_mem _ hw)) e
    unfold restE
    split
    · rename_i d hd
      split
      · rename_i so
        obtain ⟨x, hx, r⟩ := hs v List.mem_cons_self d hd so
        obtain ⟨g2, s2, e2⟩ := e1.drop v
        by_cases hv : v < (restE ρ0 ρ vs).length
        · obtain ⟨g3, p3, e3⟩ := e2.fill hx (by simp [hv]) r
          rw [set_none_set] at e3
          exact ⟨g3, ((Le.perm p3).trans (.sub s2)).trans s, e3⟩
        · rw [List.set_eq_of_length_le (by omega)]
          exact ⟨g, s, e1⟩
      · exact ⟨g, s, e1⟩
    · exact ⟨g, s, e1⟩
theorem compL_wiped {k : D → Env → Option Env} {t : Env → Res Bool} {f : Env → Res D} {vs : List Nat} : ∀ {ds : List D} {ρ ρ' : Env} {ys : List D}, compL k t f vs ds ρ = .ok ys ρ' → (∀ i d, ρ[i]? = some (some d) → i ∉ vs) → ∀ i d, ρ'[i]? = some (some d) → i ∉ vs
  | [], ρ, ρ', ys, h, hn => by
    simp only [compL, Res.ok.injEq] at h
    obtain ⟨_, rfl⟩ := h
    exact hn
  | d :: ds, ρ, ρ', ys, h, hn => by
    simp only [compL] at h
    split at h
    · cases h
    · rename_i ρ1 _
      cases h1 : t ρ1 with
      | stuck => rw [h1] at h; cases h
      | err _ _ => rw [h1] at h; cases h
      | ok b ρ2 =>
        rw [h1] at h
        simp only [Res.bind_ok] at h
        cases b with
        | false => exact compL_wiped h fun i d hd => (wipeE_at hd).2
        | true =>
          simp only [if_true] at h
          cases h2 : f ρ2 with
          | stuck => rw [h2] at h; cases h
          | err _ _ => rw [h2] at h; cases h
          | ok y ρ3 =>
            rw [h2] at h
            simp only [Res.bind_ok] at h
            cases h3 : compL k t f vs ds (wipeE ρ3 vs) with
            | stuck => rw [h3] at h; cases h
            | err _ _ => rw [h3] at h; cases h
            | ok zs ρ4 =>
              rw [h3] at h
              simp only [Res.bind_ok, Res.ok.injEq] at h
              obtain ⟨_, rfl⟩ := h
              exact compL_wiped h3 fun i d hd => (wipeE_at hd).2

/-- the slots beside vs -/
def beside (n : Nat) (vs : List Nat) : List Nat := (List.range n).filter fun j => decide (j ∉ vs)
theorem wipe_same {σ σ' : L2.St} {vs : List Nat} (hl : σ'.length = σ.length) (hk : Keep (beside σ.length vs) σ σ') : L2.wipe σ' vs = L2.wipe σ vs := by
  refine List.ext_getElem? fun i => ?_
  by_cases hi : i ∈ vs
  · have key : ∀ (τ : L2.St) (vs : List Nat), i ∈ vs → (L2.wipe τ vs)[i]? = if i < τ.length then some none else none := by
      intro τ vs
      induction vs with
      | nil => intro h; cases h
      | cons v vs ih =>
        intro h
        unfold L2.wipe
        by_cases e : v = i
        · subst e
          by_cases hv : v < τ.length
          · rw [List.getElem?_set_self (by rw [L2.wipe_length]; exact hv), if_pos hv]
          · rw [List.getElem?_eq_none (by rw [List.length_set, L2.wipe_length]; omega), if_neg hv]
        · rw [List.getElem?_set_ne e]
          exact ih ((List.mem_cons.mp h).elim (fun z => absurd z.symm e) id)
    rw [key _ _ hi, key _ _ hi, hl]
  · rw [L2.wipe_out hi, L2.wipe_out hi]
    by_cases hn : i < σ.length
    · exact hk i (List.mem_filter.mpr ⟨List.mem_range.mpr hn, by simpa using hi⟩)
    · rw [List.getElem?_eq_none (by omega), List.getElem?_eq_none (by omega)]
theorem beside_not {n : Nat} {vs : List Nat} {v : Nat} (h : v ∈ vs) : v ∉ beside n vs := fun z => by
  have := (List.mem_filter.mp z).2
  simp at this
  exact this h

/-- the block's wish: nothing is let out -/
abbrev W0 : WX := fun _ _ _ _ => False
theorem wipe_idem {σ : L2.St} {vs : List Nat} : L2.wipe (L2.wipe σ vs) vs = L2.wipe σ vs := by
  refine List.ext_getElem? fun i => ?_
  by_cases hi : i ∈ vs
  · have key : ∀ (τ : L2.St) (vs : List Nat), i ∈ vs → (L2.wipe τ vs)[i]? = if i < τ.length then some none else none := by
      intro τ vs
      induction vs with
      | nil => intro h; cases h
      | cons v vs ih =>
        intro h
        unfold L2.wipe
        by_cases e : v = i
        · subst e
          by_cases hv : v < τ.length
          · rw [List.getElem?_set_self (by rw [L2.wipe_length]; exact hv), if_pos hv]
          · rw [List.getElem?_eq_none (by rw [List.length_set, L2.wipe_length]; omega), if_neg hv]
        · rw [List.getElem?_set_ne e]
          exact ih ((List.mem_cons.mp h).elim (fun z => absurd z.symm e) id)
    rw [key _ _ hi, key _ _ hi, L2.wipe_length]
  · rw [L2.wipe_out hi]
/-- an owned object is written -/
theorem ext_write {a : Addr} {o o' : HO} (m : a ∈ fp) (h : H a = some o) (w : Wd F H fp) (ho : Ownable o') : Ext F H fp F (upd H a o') fp ∧ Wd F (upd H a o') fp := by
  have nn : ∀ b, H b ≠ none → upd H a o' b ≠ none := fun b hb => by
    by_cases e : b = a
    · subst e; rw [upd_same]; intro z; cases z
    · rw [upd_ne e]; exact hb
  refine ⟨⟨fun _ h => h, fun b u hb n => .inl ?_, fun b m => .inl m, fun b h => .inl h, nn⟩, ⟨w.nodup, w.ff, fun b mb => ?_, fun b fb => nn b (w.ft b fb)⟩⟩
  · rw [upd_ne fun z => n (by rw [z]; exact m)]; exact hb
  · by_cases e : b = a
    · subst e; exact ⟨o', upd_same, ho⟩
    · rw [upd_ne e]; exact w.own b mb
/-- THE LOOP of a list comprehension, Dn the list that is filled -/
theorem lc_walk0 {fa : List Addr} {its : List D} {J : It} {S : (Addr → Prop) → Hp → Prop} (wk : Wlk G fa its J S) {vs : List Nat} {t : TG} {k : D → Env → Option Env} (hk : ∀ kp, (∀ v ∈ vs, v ∉ kp) → TgS G kp t k) {tf : Env → Res Bool} {f : Env → Res D} {σ : L2.St} {H : Hp} {F : Addr → Prop} {ρ ρ' : Env} {fp : List Addr} {ys acc1 : List D} {acc0 : List V} {Dn : Addr} {Qd : Hp → Prop}
    (hD : H Dn = some (.lst acc0)) (ha : Rs G F H acc0 acc1 []) (hz : acc0.length + ys.length ≤ sizeLine) (s0 : S F H) (w0 : Wd F H (Dn :: (fa ++ fp))) (e0 : EnvR G F H (L2.wipe σ vs) ρ fp) (p0 : compL k tf f vs its ρ = .ok ys ρ')
    (q : ∀ accV F' H' fp', Ext F H (Dn :: fp) F' H' (Dn :: fp') → Wd F' H' (Dn :: (fa ++ fp')) → EnvR G F' H' (L2.wipe σ vs) ρ' fp' → H' Dn = some (.lst accV) → Rs G F' H' accV (acc1 ++ ys) [] → S F' H' → Qd H') :
    ∃ Wm : Nat → Nat → Hp → Prop, (∃ m, Wm 0 m H) ∧ ∀ i m H, Wm i m H →
      (J.stop i H ∧ Qd H) ∨ (J.go i H ∧ ∃ Nx : Hp → Prop, (∀ H', Nx H' → ∃ m', m' < m ∧ Wm (i + 1) m' H') ∧ ∀ x H', J.yld i H x H' → t x (L2.wipe σ vs) H' fun σ2 H2 => L2.wipe σ2 vs = L2.wipe σ vs ∧ WpT G W0 tf σ2 H2 fun b H3 =>
        if b = true then WpE G W0 f σ2 H3 fun y H4 => ∃ acc, H4 Dn = some (.lst acc) ∧ acc.length < sizeLine ∧ Nx (upd H4 Dn (.lst (acc ++ [y]))) else Nx H3) := by
  -- what is carried: the list so far
  let P : Nat → (Addr → Prop) → Hp → Env → List Addr → Prop := fun i F1 H1 ρ1 fp1 => S F1 H1 ∧ Wd F1 H1 (Dn :: (fa ++ fp1)) ∧ EnvR G F1 H1 (L2.wipe σ vs) ρ1 fp1 ∧ Ext F H (Dn :: fp) F1 H1 (Dn :: fp1) ∧
    ∃ accV accD ys', H1 Dn = some (.lst accV) ∧ Rs G F1 H1 accV accD [] ∧ accV.length + ys'.length ≤ sizeLine ∧ compL k tf f vs (its.drop i) ρ1 = .ok ys' ρ' ∧ accD ++ ys' = acc1 ++ ys
  refine ⟨fun i m H1 => (∃ F1 ρ1 fp1, P i F1 H1 ρ1 fp1) ∧ i ≤ its.length ∧ m = its.length - i, ?_, ?_⟩
  · exact ⟨its.length, ⟨F, ρ, fp, s0, w0, e0, Ext.refl (w0.sub (List.Sublist.cons₂ _ (List.sublist_append_right _ _))), acc0, acc1, ys, hD, ha, hz, by simpa using p0, rfl⟩, Nat.zero_le _, by simp⟩
  · rintro i m H1 ⟨⟨F1, ρ1, fp1, s1, w1, e1, E0, accV, accD, ys', hd1, ra1, hl1, hc, hys⟩, hi, rfl⟩
    have wfa : Wd F1 H1 (fa ++ fp1) := w1.sub (List.sublist_cons_self _ _)
    by_cases hlt : i < its.length
    · have hd : its[i]? = some its[i] := List.getElem?_eq_getElem hlt
      refine .inr ⟨wk.go F1 H1 i _ s1 hd, ?_⟩
      rw [List.drop_eq_getElem_cons hlt] at hc
      refine ⟨fun H' => ∃ F' ρ2 fp', P (i + 1) F' H' ρ2 fp', fun H' hp => ⟨its.length - (i + 1), by omega, hp, hlt, rfl⟩, fun x H2 y => ?_⟩
      obtain ⟨E2, W2, r2⟩ := wk.yld F1 H1 (Dn :: (fa ++ fp1)) i _ x H2 s1 w1 hd y
      have wn : Wd F1 H1 ((Dn :: (fa ++ fp1)) ++ []) := by rw [List.append_nil]; exact w1
      have w2 := wn.beside E2 W2
      have wdf : Wd F1 H1 (Dn :: fp1) := w1.sub (List.Sublist.cons₂ _ (List.sublist_append_right _ _))
      have B2 := E2.beside (fp := Dn :: fp1) (by rw [List.append_nil]; exact wdf)
      simp only [List.append_nil] at w2 B2
      have s2 := wk.keep F1 H1 [] F1 H2 [] s1 (by rw [List.append_nil]; exact wfa.left) E2
      have e2 := e1.keep E2 w1.nil (fun a m => ⟨fun z => (nomatch z), wfa.right.ff a m⟩)
      have ra2 := ra1.keep E2 w1.nil fun _ m => (nomatch m)
      have hd2 : H2 Dn = some (.lst accV) := E2.stay hd1 (fun z => nomatch z) fun z => z
      have wfa2 : Wd F1 H2 (fa ++ fp1) := w2.sub (List.sublist_cons_self _ _)
      simp only [compL] at hc
      cases hk1 : k its[i] ρ1 with
      | none => simp only [hk1] at hc; cases hc
      | some ρ2 =>
        simp only [hk1] at hc
        refine hk (beside (L2.wipe σ vs).length vs) (fun v hv => beside_not hv) F1 H2 fp1 [] (L2.wipe σ vs) ρ1 x _ ρ2 _ wfa2.right e2 r2 hk1 fun σ2 g wg sb e3 k3 hlen => ?_
        have hw : L2.wipe σ2 vs = L2.wipe σ vs := by rw [wipe_same hlen k3, wipe_idem]
        -- beside the list and the iterator
        have wg2 : Wd F1 H2 (Dn :: (fa ++ g)) := by
          have hx : ∀ a ∈ Dn :: fa, a ∉ g := fun a m n => by
            have hh : Wd F1 H2 ((Dn :: fa) ++ fp1) := w2
            exact hh.apart a m (by simpa using sb a n)
          have wl : Wd F1 H2 (Dn :: fa) := (show Wd F1 H2 ((Dn :: fa) ++ fp1) from w2).left
          refine (?_ : Wd F1 H2 ((Dn :: fa) ++ g))
          exact ⟨List.nodup_append.mpr ⟨wl.nodup, wg.nodup, fun a m b n z => hx a m (by rw [z]; exact n)⟩, fun a m => (List.mem_append.mp m).elim (wl.ff a) (wg.ff a), fun a m => (List.mem_append.mp m).elim (wl.own a) (wg.own a), wg.ft⟩
        have E02 : Ext F H (Dn :: fp) F1 H2 (Dn :: g) := (E0.trans B2).less fun a m => by
          rcases List.mem_cons.mp m with z | z
          · exact List.mem_cons.mpr (.inl z)
          · exact List.mem_cons_of_mem _ (by simpa using sb a z)
        have wdg : Wd F1 H2 ([Dn] ++ g) := wg2.sub (List.Sublist.cons₂ _ (List.sublist_append_right _ _))
        have wfg : Wd F1 H2 (fa ++ g) := wg2.sub (List.sublist_cons_self _ _)
        -- a turn's end
        have fin : ∀ (F' : Addr → Prop) (H' : Hp) (ρ4 : Env) (g4 : List Addr) (accV' : List V) (accD' ys2 : List D), Ext F1 H2 ([Dn] ++ g) F' H' ([Dn] ++ g4) → Wd F' H' (Dn :: (fa ++ g4)) → EnvR G F' H' σ2 ρ4 g4 → H' Dn = some (.lst accV') → Rs G F' H' accV' accD' [] → accV'.length + ys2.length ≤ sizeLine →
            compL k tf f vs (its.drop (i + 1)) (wipeE ρ4 vs) = .ok ys2 ρ' → accD' ++ ys2 = acc1 ++ ys → ∃ F' ρ2 fp', P (i + 1) F' H' ρ2 fp' := fun F' H' ρ4 g4 accV' accD' ys2 E' W' R' hd' ra' hl' hc' hy' => by
          obtain ⟨g5, s5, e5⟩ := R'.wipe (vs := vs)
          rw [hw] at e5
          refine ⟨F', wipeE ρ4 vs, g5, wk.keep F1 H2 ([Dn] ++ g) F' H' ([Dn] ++ g4) s2 ?_ E', W'.sub (List.Sublist.cons₂ _ (List.Sublist.append_left s5 fa)), e5, (E02.trans E').less fun a m => ?_, accV', accD', ys2, hd', ra', hl', hc', hy'⟩
          · refine wg2.perm ?_
            exact (List.perm_middle (l₁ := fa) (l₂ := g) (a := Dn)).symm
          · rcases List.mem_cons.mp m with z | z
            · exact List.mem_cons.mpr (.inl z)
            · exact List.mem_cons_of_mem _ (s5.subset z)
        refine ⟨hw, F1, ρ2, g, wg, e3, ?_⟩
        cases ht : tf ρ2 with
        | stuck => rw [ht] at hc; cases hc
        | err _ _ => rw [ht] at hc; cases hc
        | ok b ρ3 =>
          rw [ht] at hc
          simp only [Res.bind_ok] at hc
          rintro b' F3 H3 fv3 g3 E3 W3 R3 ⟨rfl, rfl⟩
          simp only [List.nil_append] at E3 W3
          have D3 := E3.beside wdg
          have hd3 : H3 Dn = some (.lst accV) := E3.stay hd2 (wdg.apart Dn (by simp)) fun z => z
          have ra3 := ra2.keep E3 wg fun _ m => (nomatch m)
          have w3 : Wd F3 H3 (Dn :: (fa ++ g3)) := (show Wd F1 H2 ((Dn :: fa) ++ g) from wg2).beside E3 W3
          cases b' with
          | false =>
            simp only [Bool.false_eq_true, if_false] at hc ⊢
            exact fin F3 H3 ρ3 g3 accV accD ys' D3 w3 R3 hd3 ra3 hl1 hc hys
          | true =>
            simp only [if_true] at hc ⊢
            refine ⟨F3, ρ3, g3, W3, R3, ?_⟩
            cases hf : f ρ3 with
            | stuck => rw [hf] at hc; cases hc
            | err _ _ => rw [hf] at hc; cases hc
            | ok y ρ4 =>
              rw [hf] at hc
              simp only [Res.bind_ok] at hc
              intro v F4 H4 fv g4 E4 W4 R4 r4
              cases hr : compL k tf f vs (its.drop (i + 1)) (wipeE ρ4 vs) with
              | stuck => rw [hr] at hc; cases hc
              | err _ _ => rw [hr] at hc; cases hc
              | ok zs ρ5 =>
                rw [hr] at hc
                simp only [Res.bind_ok, Res.ok.injEq] at hc
                obtain ⟨hz', rfl⟩ := hc
                have wd3 : Wd F3 H3 ([Dn] ++ g3) := w3.sub (List.Sublist.cons₂ _ (List.sublist_append_right _ _))
                have D4 := E4.beside wd3
                have hd4 : H4 Dn = some (.lst accV) := E4.stay hd3 (wd3.apart Dn (by simp)) fun z => z
                have w4 : Wd F4 H4 ((Dn :: fa) ++ (fv ++ g4)) := (show Wd F3 H3 ((Dn :: fa) ++ g3) from w3).beside E4 W4
                have w4p : Wd F4 H4 (fv ++ ((Dn :: fa) ++ g4)) := w4.perm (by
                  rw [← List.append_assoc, ← List.append_assoc]
                  exact List.Perm.append_right g4 List.perm_append_comm)
                have w4f : Wd F4 H4 (fv ++ ([Dn] ++ g4)) := w4p.sub (List.Sublist.append_left (List.Sublist.cons₂ _ (List.sublist_append_right _ _)) _)
                have Ef := Ext.freeze w4f
                have Wf := w4p.freeze
                have Wdf := w4f.freeze
                obtain ⟨Ew, Ww⟩ := ext_write (o' := .lst (accV ++ [v])) (by simp) hd4 Wdf trivial
                obtain ⟨_, Ww2⟩ := ext_write (o' := .lst (accV ++ [v])) (by simp) hd4 Wf trivial
                have wD : Wd (FF F4 fv) H4 [Dn] := Wdf.left
                obtain ⟨Ew1, _⟩ := ext_write (o' := .lst (accV ++ [v])) (by simp) hd4 wD trivial
                have ap : ∀ a ∈ g4, a ∉ [Dn] ∧ ¬ FF F4 fv a := fun a m => (Wdf.perm List.perm_append_comm).apart2 a m
                refine ⟨accV, hd4, by rw [← hz'] at hl1; simp only [List.length_cons] at hl1; omega, fin (FF F4 fv) _ ρ4 g4 (accV ++ [v]) (accD ++ [frz y]) zs ?_ Ww2 ?_ upd_same ?_ ?_ hr ?_⟩
                · have D4' : Ext F3 H3 ([Dn] ++ g3) F4 H4 (fv ++ ([Dn] ++ g4)) := D4.perm (by
                    rw [← List.append_assoc, ← List.append_assoc]
                    exact List.Perm.append_right g4 List.perm_append_comm)
                  exact ((D3.trans D4').trans Ef).trans Ew
                · exact (R4.mono fun _ z => Or.inl z).keep Ew1 wD ap
                · have h1 := ((ra3.keep E4 W3 fun _ m => (nomatch m)).mono (F1 := FF F4 fv) fun _ z => Or.inl z).keep Ew1 wD fun _ m => (nomatch m)
                  have h2 := (r4.freeze (g := fv) fun _ m => m).keep Ew1 wD fun _ m => (nomatch m)
                  exact Rs.append (f1 := []) (f2 := []) h1 (.cons (f1 := []) (f2 := []) h2 .nil)
                · rw [← hz'] at hl1; simp only [List.length_append, List.length_singleton, List.length_cons, List.length_nil] at hl1 ⊢; omega
                · rw [List.append_assoc, ← hys, ← hz']; rfl
    · have ei : i = its.length := by omega
      subst ei
      rw [List.drop_length] at hc
      simp only [compL, Res.ok.injEq] at hc
      obtain ⟨rfl, rfl⟩ := hc
      rw [List.append_nil] at hys
      subst hys
      exact .inl ⟨wk.stop F1 H1 s1, q accV F1 H1 fp1 E0 w1 e1 hd1 ra1 s1⟩
theorem compL_length {k : D → Env → Option Env} {t : Env → Res Bool} {f : Env → Res D} {vs : List Nat} : ∀ {ds : List D} {ρ ρ' : Env} {ys : List D}, compL k t f vs ds ρ = .ok ys ρ' → ys.length ≤ ds.length
  | [], ρ, ρ', ys, h => by
    simp only [compL, Res.ok.injEq] at h
    obtain ⟨rfl, _⟩ := h
    exact Nat.le_refl _
  | d :: ds, ρ, ρ', ys, h => by
    simp only [compL] at h
    split at h
    · cases h
    · rename_i ρ1 _
      cases h1 : t ρ1 with
      | stuck => rw [h1] at h; cases h
      | err _ _ => rw [h1] at h; cases h
      | ok b ρ2 =>
        rw [h1] at h
        simp only [Res.bind_ok] at h
        cases b with
        | false =>
          have := compL_length h
          simp only [List.length_cons]; omega
        | true =>
          simp only [if_true] at h
          cases h2 : f ρ2 with
          | stuck => rw [h2] at h; cases h
          | err _ _ => rw [h2] at h; cases h
          | ok y ρ3 =>
            rw [h2] at h
            simp only [Res.bind_ok] at h
            cases h3 : compL k t f vs ds (wipeE ρ3 vs) with
            | stuck => rw [h3] at h; cases h
            | err _ _ => rw [h3] at h; cases h
            | ok zs ρ4 =>
              rw [h3] at h
              simp only [Res.bind_ok, Res.ok.injEq] at h
              obtain ⟨rfl, _⟩ := h
              have := compL_length h3
              simp only [List.length_cons]; omega
theorem Wlk.and {fa : List Addr} {its : List D} {J : It} {S S2 : (Addr → Prop) → Hp → Prop} (wk : Wlk G fa its J S) (k2 : ∀ F H g F' H' g', S2 F H → Wd F H g → Ext F H g F' H' g' → S2 F' H') : Wlk G fa its J (fun F H => S F H ∧ S2 F H) :=
  ⟨fun F H g F' H' g' s w E => ⟨wk.keep F H g F' H' g' s.1 w E, k2 F H g F' H' g' s.2 w.right E⟩, fun F H i d s => wk.go F H i d s.1, fun F H fp i d y H' s => wk.yld F H fp i d y H' s.1, fun F H s => wk.stop F H s.1, wk.len⟩
/-- the block's names, as they were ahead -/
def Olds (G : Gam) (σ : L2.St) (ρ0 : Env) (vs : List Nat) (F : Addr → Prop) (H : Hp) : Prop := ∀ v ∈ vs, ∀ d, ρ0[v]? = some (some d) → solid d = true → ∃ x, σ[v]? = some (some x) ∧ R G F H x d []
theorem Olds.keep {ρ0 : Env} {vs : List Nat} (h : Olds G σ ρ0 vs F H) (w : Wd F H g) (E : Ext F H g F1 H1 g1) : Olds G σ ρ0 vs F1 H1 := fun v hv d e so => by
  obtain ⟨x, hx, r⟩ := h v hv d e so
  exact ⟨x, hx, r.keep E w fun _ m => (nomatch m)⟩
theorem EnvR.olds {vs : List Nat} (h : EnvR G F H σ ρ fp) : Olds G σ ρ vs F H := fun v hv d e so => by
  obtain ⟨x, f1, f2, hx, r, _⟩ := h.get e
  rw [r.solid0 so] at r
  exact ⟨x, hx, r⟩
/-- .. with the list made -/
theorem lc_walk {fa : List Addr} {its : List D} {J : It} {S : (Addr → Prop) → Hp → Prop} (wk : Wlk G fa its J S) {vs : List Nat} {t : TG} {k : D → Env → Option Env} (hk : ∀ kp, (∀ v ∈ vs, v ∉ kp) → TgS G kp t k) {tf : Env → Res Bool} {f : Env → Res D} {σ : L2.St} {H : Hp} {F : Addr → Prop} {ρ0 ρ' : Env} {fp : List Addr} {ys : List D} {Dn : Addr} {Q : VK}
    (hD : H Dn = none) (s0 : S F H) (w0 : Wd F H (fa ++ fp)) (e0 : EnvR G F H σ ρ0 fp) (p0 : compL k tf f vs its (wipeE ρ0 vs) = .ok ys ρ')
    (q : ∀ v F' H' fv fp', Ext F H fp F' H' (fv ++ fp') → Wd F' H' (fv ++ fp') → EnvR G F' H' σ (restE ρ0 ρ' vs) fp' → R G F' H' v (.lst true ys) fv → Q v H') :
    ∃ Wm : Nat → Nat → Hp → Prop, (∃ m, Wm 0 m (upd H Dn (.lst []))) ∧ ∀ i m H, Wm i m H →
      (J.stop i H ∧ Q (.ref Dn) H) ∨ (J.go i H ∧ ∃ Nx : Hp → Prop, (∀ H', Nx H' → ∃ m', m' < m ∧ Wm (i + 1) m' H') ∧ ∀ x H', J.yld i H x H' → t x (L2.wipe σ vs) H' fun σ2 H2 => L2.wipe σ2 vs = L2.wipe σ vs ∧ WpT G W0 tf σ2 H2 fun b H3 =>
        if b = true then WpE G W0 f σ2 H3 fun y H4 => ∃ acc, H4 Dn = some (.lst acc) ∧ acc.length < sizeLine ∧ Nx (upd H4 Dn (.lst (acc ++ [y]))) else Nx H3) := by
  have En := ext_new (F := F) (o := .lst []) hD
  have Eo := ext_own (F := F) (o := .lst []) hD
  have wn : Wd F H ((fa ++ fp) ++ []) := by rw [List.append_nil]; exact w0
  have w1 : Wd F (upd H Dn (.lst [])) (Dn :: (fa ++ fp)) := (wn.beside Eo (wd_own w0 hD trivial)).perm List.perm_append_comm
  have B := Eo.beside (fp := fp) (by rw [List.append_nil]; exact w0.right)
  rw [List.append_nil] at B
  obtain ⟨g, sg, e1⟩ := e0.wipe (vs := vs)
  have e2 := e1.keep En w0.nil (fun a m => ⟨fun z => (nomatch z), w0.right.ff a (sg.subset m)⟩)
  refine lc_walk0 (wk.and (S2 := Olds G σ ρ0 vs) fun F H g F' H' g' s w E => s.keep w E) hk upd_same .nil (by have h1 := compL_length p0; have h2 := wk.len; simp only [List.length_nil]; omega)
    ⟨wk.keep F H [] F _ [] s0 (by rw [List.append_nil]; exact w0.left) En, (e0.olds).keep w0.nil En⟩ (w1.sub (List.Sublist.cons₂ _ (List.Sublist.append_left sg fa))) e2 p0 fun accV F' H' fp' E' W' R' hd' ra' s' => ?_
  have R2 := R'.unwipe (compL_wiped p0 fun i d hd => (wipeE_at hd).2)
  obtain ⟨g3, l3, e3⟩ := R2.rest (ρ0 := ρ0) vs s'.2
  have W2 : Wd F' H' ([Dn] ++ fp') := W'.sub (List.Sublist.cons₂ _ (List.sublist_append_right _ _))
  refine q (.ref Dn) F' H' [Dn] g3 (((B.perm (fp2 := Dn :: fp) List.perm_append_comm).trans (E'.wide fun a m => ?_)).less fun a m => ?_) (l3.1 _ W2) e3 (.lstO (fp := []) hd' ra')
  · rcases List.mem_cons.mp m with z | z
    · exact List.mem_cons.mpr (.inl z)
    · exact List.mem_cons_of_mem _ (sg.subset z)
  · rcases List.mem_append.mp m with z | z
    · exact List.mem_cons.mpr (.inl (by simpa using z))
    · exact List.mem_cons_of_mem _ (l3.2 a z)
end

section
variable {X : Cx} {W : WX} {kp : List Nat} {elt tg iter : Expr} {ifs : List Expr} {scope : Scope} {own : List (Str × Nat)} {pos : Pos} {src : Env → Res (List D)} {g : TG} {k : D → Env → Option Env} {tf : Env → Res Bool} {f : Env → Res D}
theorem wp_comp {σ : L2.St} {H : Hp} {Q : VK} {G : Gam} {vs : List Nat} (hk : ∀ kp, (∀ v ∈ vs, v ∉ kp) → TgS G kp g k) (h : WpE G W (compE src k tf f vs) σ H Q) : tLc (WpI G W src) g (WpT G W0 tf) (WpE G W0 f) vs σ H Q := by
  obtain ⟨F, ρ, fp, w, e, p⟩ := h
  refine ⟨F, ρ, fp, w, e, ?_⟩
  unfold compE at p
  cases h1 : src ρ with
  | ok its ρ0 =>
    simp only [h1, Res.bind_ok] at p
    intro J S F1 H1 fa fp1 E1 W1 R1 wk s Dn hD
    cases h2 : compL k tf f vs its (wipeE ρ0 vs) with
    | ok ys ρ' =>
      simp only [h2, Res.nox, Res.bind_ok] at p
      exact lc_walk wk hk hD s W1 R1 h2 fun v F' H' fv fp' E' W' R' r' => p v F' H' fv fp' ((E1.less fun a m => List.mem_append_right _ m).trans E') W' R' r'
    | err _ _ => simp only [h2, Res.nox, Res.bind_stuck] at p; exact p.elim
    | stuck => simp only [h2, Res.nox, Res.bind_stuck] at p; exact p.elim
  | err e ρ1 => simp only [h1, Res.bind_err] at p; exact p
  | stuck => simp only [h1, Res.bind_stuck] at p; exact p
theorem dts_nil : PTs X [] (WpT (gam X) W yesB) := ⟨fun pins s σ H Q I q => pts_nil.run pins s σ H Q I (retT q)⟩
theorem dts_one {c : Expr} (h : DT X W c tf) : PTs X [c] (WpT (gam X) W tf) := pts_one h.pt
theorem de_lc (hc : X.calm = true) (hN : X.N.Nodup) (hi : DI X W tg iter src) (ok : BlkOk X.N X.env.scope scope own)
    (hg : ∀ (s : Shared) (H : Hp) (C : Addr) (cl : List (Str × Addr)) (fp : List Addr), PG (X.blk s H scope (compEnvC scope cl C X.env) fp) tg g) (hk : ∀ kp, (∀ v ∈ own.map (·.2), v ∉ kp) → TgS (gam X) kp g k)
    (ht : ∀ (s : Shared) (H : Hp) (C : Addr) (cl : List (Str × Addr)) (fp : List Addr), PTs (X.blk s H scope (compEnvC scope cl C X.env) fp) ifs (WpT (gam X) W0 tf))
    (he : ∀ (s : Shared) (H : Hp) (C : Addr) (cl : List (Str × Addr)) (fp : List Addr), DE (X.blk s H scope (compEnvC scope cl C X.env) fp) W0 elt f) (hs : ∀ x, foldedSetIterable iter X.env x = pure x := by intro _; rfl) :
    DE X W (.ListComp elt [⟨tg, iter, ifs, 0⟩] scope pos) (compE src k tf f (own.map (·.2))) :=
  ⟨(pe_lc hc hN hi.pi ok hg ht (fun s H C cl fp => (he s H C cl fp).pe) hs).weak fun σ H Q q => wp_comp hk q⟩
theorem ds_setLc {i : Nat} {y : Str} {py spos : Pos} (hc : X.calm = true) (hN : X.N.Nodup) (hy : X.N[i]? = some y) (hyl : X.env.scope.names.lookup y = some .local) (hki : i ∉ kp)
    (hsw : swapsWith (.ListComp elt [⟨tg, iter, ifs, 0⟩] scope pos) (some (.Name y py)) spos.line X.env = pure true) (hi : DI X W tg iter src) (ok : BlkOk X.N X.env.scope scope own)
    (hg : ∀ (s : Shared) (H : Hp) (C : Addr) (cl : List (Str × Addr)) (fp : List Addr), PG (X.blk s H scope (compEnvC scope cl C X.env) fp) tg g) (hk : ∀ kp, (∀ v ∈ own.map (·.2), v ∉ kp) → TgS (gam X) kp g k)
    (ht : ∀ (s : Shared) (H : Hp) (C : Addr) (cl : List (Str × Addr)) (fp : List Addr), PTs (X.blk s H scope (compEnvC scope cl C X.env) fp) ifs (WpT (gam X) W0 tf))
    (he : ∀ (s : Shared) (H : Hp) (C : Addr) (cl : List (Str × Addr)) (fp : List Addr), DE (X.blk s H scope (compEnvC scope cl C X.env) fp) W0 elt f) (hs : ∀ x, foldedSetIterable iter X.env x = pure x := by intro _; rfl) :
    DS X W kp (.Assign [.Name y py] (.ListComp elt [⟨tg, iter, ifs, 0⟩] scope pos) spos) (asgS i (compE src k tf f (own.map (·.2)))) :=
  ⟨(ps_setLc hc hN hy hyl hsw hi.pi ok hg ht (fun s H C cl fp => (he s H C cl fp).pe) hs).weak fun D σ H q => wp_comp hk (wpS_bindE q fun d ρ1 v F1 H1 fv fp1 w r r1 p => by
    obtain ⟨g, w2, sb, e2⟩ := EnvR.set r (i := i) r1 w
    exact p _ F1 H1 g ((Ext.refl w).less sb) w2 e2 (Keep.set hki))⟩
end
end DL

set_option Elab.async false
set_option linter.all false
set_option maxRecDepth 100000
set_option maxHeartbeats 4000000
/-! DL9: operators by data. -/
namespace DL
open PySem PySem.Spec PyProof.Rows L2

def lift2 (k : D → D → Option D) : List D → Option D
  | [a, b] => k a b
  | _ => none
def lift1 (k : D → Option D) : List D → Option D
  | [a] => k a
  | _ => none
/-- the answer is a value without parts -/
inductive Sc : V → D → Prop
  | non : Sc .non .non
  | bl (b) : Sc (.bl b) (.bl b)
  | int (i) : Sc (.int i) (.int i)
  | str (s) : Sc (.str s) (.str s)
  | ty (n) : Sc (.ty n) (.ty n)
theorem Sc.R {G : Gam} {F : Addr → Prop} {H : Hp} {v : V} {d : D} (h : Sc v d) : R G F H v d [] := by
  cases h
  · exact .non
  · exact .bl _
  · exact .int _
  · exact .str _
  · exact .ty _
section
variable {G : Gam}
theorem opS2 {r : R2} {k : D → D → Option D} (h : ∀ (F : Addr → Prop) (H : Hp) (fp : List Addr) (x y : V) (a b d : D) (f1 f2 : List Addr) (Q : VK), Wd F H fp → R G F H x a f1 → (∀ q ∈ f1, q ∈ fp) → R G F H y b f2 → (∀ q ∈ f2, q ∈ fp) → k a b = some d →
    (∀ v F' H' fv, Ext F H [] F' H' fv → Wd F' H' fv → R G F' H' v d fv → Q v H') → r x y H Q) : OpS G (r2 r) (lift2 k) := by
  intro F H fp vs ds d Q w rd e q
  cases rd with
  | nil => cases e
  | cons ra m1 t =>
    cases t with
    | nil => cases e
    | cons rb m2 t2 =>
      cases t2 with
      | nil => exact h F H fp _ _ _ _ d _ _ Q w ra m1 rb m2 e q
      | cons _ _ _ => cases e
theorem opS1 {r : V → Hp → VK → Prop} {k : D → Option D} (h : ∀ (F : Addr → Prop) (H : Hp) (fp : List Addr) (x : V) (a d : D) (f1 : List Addr) (Q : VK), Wd F H fp → R G F H x a f1 → (∀ q ∈ f1, q ∈ fp) → k a = some d →
    (∀ v F' H' fv, Ext F H [] F' H' fv → Wd F' H' fv → R G F' H' v d fv → Q v H') → r x H Q) : OpS G (r1 r) (lift1 k) := by
  intro F H fp vs ds d Q w rd e q
  cases rd with
  | nil => cases e
  | cons ra m1 t =>
    cases t with
    | nil => exact h F H fp _ _ d _ Q w ra m1 e q
    | cons _ _ _ => cases e
theorem gives {F : Addr → Prop} {H : Hp} {fp : List Addr} {v : V} {d : D} {Q : VK} (w : Wd F H fp) (q : ∀ v F' H' fv, Ext F H [] F' H' fv → Wd F' H' fv → R G F' H' v d fv → Q v H') (s : Sc v d) : Q v H :=
  q v F H [] (Ext.refl w.nil) w.nil s.R
end
/-- a two-place operation that means k -/
structure OpD (X : Cx) (f : Value → Value → Sem Value) (k : D → D → Option D) : Prop where
  ex : ∃ r, OpR X f r ∧ OpS (gam X) (r2 r) (lift2 k)
structure CallD (X : Cx) (f : Value) (k : List D → Option D) : Prop where
  ex : ∃ r, CallR X f r ∧ OpS (gam X) r k
structure IxD (X : Cx) (k : D → D → Option D) : Prop where
  ex : ∃ r, IxR X r ∧ OpS (gam X) (r2 r) (lift2 k)
structure UnD (X : Cx) (f : Value → Sem Value) (k : D → Option D) : Prop where
  ex : ∃ r, UnR X f r ∧ OpS (gam X) (r1 r) (lift1 k)
/-- the first that gives an answer -/
def orK (k k' : D → D → Option D) : D → D → Option D := fun a b => match k a b with
  | some d => some d
  | none => k' a b
section
variable {X : Cx} {f : Value → Value → Sem Value} {k k' : D → D → Option D}
theorem OpD.or (h : OpD X f k) (h' : OpD X f k') : OpD X f (orK k k') := by
  obtain ⟨r, h1, h2⟩ := h.ex
  obtain ⟨r', h1', h2'⟩ := h'.ex
  refine ⟨fun x y H Q => r x y H Q ∨ r' x y H Q, fun pins s σ H x y v u Q I rx ry q => q.elim (h1 pins s σ H x y v u Q I rx ry) (h1' pins s σ H x y v u Q I rx ry), opS2 fun F H fp x y a b d f1 f2 Q w ra m1 rb m2 e q => ?_⟩
  unfold orK at e
  split at e
  · rename_i d' hd
    exact .inl (h2 F H fp [x, y] [a, b] d Q w (.cons ra m1 (.cons rb m2 .nil)) (hd.trans e) q)
  · exact .inr (h2' F H fp [x, y] [a, b] d Q w (.cons ra m1 (.cons rb m2 .nil)) e q)
theorem IxD.or (h : IxD X k) (h' : IxD X k') : IxD X (orK k k') := by
  obtain ⟨r, h1, h2⟩ := h.ex
  obtain ⟨r', h1', h2'⟩ := h'.ex
  refine ⟨fun x y H Q => r x y H Q ∨ r' x y H Q, h1.or h1', opS2 fun F H fp x y a b d f1 f2 Q w ra m1 rb m2 e q => ?_⟩
  unfold orK at e
  split at e
  · rename_i d' hd
    exact .inl (h2 F H fp [x, y] [a, b] d Q w (.cons ra m1 (.cons rb m2 .nil)) (hd.trans e) q)
  · exact .inr (h2' F H fp [x, y] [a, b] d Q w (.cons ra m1 (.cons rb m2 .nil)) e q)
theorem CallD.or {f : Value} {k k' : List D → Option D} (h : CallD X f k) (h' : CallD X f k') : CallD X f (fun ds => match k ds with | some d => some d | none => k' ds) := by
  obtain ⟨r, h1, h2⟩ := h.ex
  obtain ⟨r', h1', h2'⟩ := h'.ex
  refine ⟨fun xs H Q => r xs H Q ∨ r' xs H Q, fun pins s σ H xs us Q I rx q => q.elim (h1 pins s σ H xs us Q I rx) (h1' pins s σ H xs us Q I rx), fun F H fp vs ds d Q w rd e q => ?_⟩
  simp only at e
  split at e
  · rename_i d' hd
    exact .inl (h2 F H fp vs ds d Q w rd (hd.trans e) q)
  · exact .inr (h2' F H fp vs ds d Q w rd e q)
end

/-! ### ints -/
def intK (C : Int → Int → Bool) (g : Int → Int → D) : D → D → Option D
  | .int i, .int j => if C i j then some (g i j) else none
  | _, _ => none
section
variable {X : Cx}
theorem R.int_inv {G : Gam} {F : Addr → Prop} {H : Hp} {v : V} {i : Int} {fp : List Addr} (h : R G F H v (.int i) fp) : v = .int i := by cases h; rfl
theorem R.str_inv {G : Gam} {F : Addr → Prop} {H : Hp} {v : V} {i : Str} {fp : List Addr} (h : R G F H v (.str i) fp) : v = .str i := by cases h; rfl
theorem R.bl_inv {G : Gam} {F : Addr → Prop} {H : Hp} {v : V} {i : Bool} {fp : List Addr} (h : R G F H v (.bl i) fp) : v = .bl i := by cases h; rfl
theorem R.non_inv {G : Gam} {F : Addr → Prop} {H : Hp} {v : V} {fp : List Addr} (h : R G F H v .non fp) : v = .non := by cases h; rfl
theorem opD_int {f : Value → Value → Sem Value} {C : Int → Int → Prop} {Cb : Int → Int → Bool} {g : Int → Int → V} {g' : Int → Int → D} (h : OpR X f (rI C g)) (hc : ∀ i j, Cb i j = true → C i j) (hg : ∀ i j, Sc (g i j) (g' i j)) : OpD X f (intK Cb g') :=
  ⟨_, h, opS2 fun F H fp x y a b d f1 f2 Q w ra m1 rb m2 e q => by
    cases a <;> cases b <;> try (simp [intK] at e)
    rename_i i j
    obtain ⟨c, rfl⟩ := e
    rw [ra.int_inv, rb.int_inv]
    exact ⟨i, j, rfl, rfl, hc i j c, gives w q (hg i j)⟩⟩
theorem opD_int0 {f : Value → Value → Sem Value} {g : Int → Int → V} {g' : Int → Int → D} (h : OpR X f (rI0 g)) (hg : ∀ i j, Sc (g i j) (g' i j)) : OpD X f (intK (fun _ _ => true) g') :=
  ⟨_, h, opS2 fun F H fp x y a b d f1 f2 Q w ra m1 rb m2 e q => by
    cases a <;> cases b <;> try (simp [intK] at e)
    rename_i i j
    subst e
    rw [ra.int_inv, rb.int_inv]
    exact ⟨i, j, rfl, rfl, gives w q (hg i j)⟩⟩
def yes2 : Int → Int → Bool := fun _ _ => true
theorem od_addI : OpD X (binaryOp .Add) (intK yes2 fun i j => .int (i + j)) := opD_int0 op_add fun _ _ => .int _
theorem od_subI : OpD X (binaryOp .Sub) (intK yes2 fun i j => .int (i - j)) := opD_int0 op_sub fun _ _ => .int _
theorem od_mulI : OpD X (binaryOp .Mult) (intK (fun i j => decide (i.natAbs.log2 + j.natAbs.log2 < 1000000)) fun i j => .int (i * j)) := opD_int op_mulW (fun i j h => by simpa [CMulW] using h) fun _ _ => .int _
theorem od_mod : OpD X (binaryOp .Mod) (intK (fun _ j => decide (0 < j)) fun i j => .int (i % j)) := opD_int op_mod (fun _ _ h => of_decide_eq_true h) fun _ _ => .int _
theorem od_fdiv : OpD X (binaryOp .FloorDiv) (intK (fun _ j => decide (0 < j ∧ j < 1073741824)) fun i j => .int (i / j)) := opD_int op_fdiv (fun i j h => by simpa [CDiv] using h) fun _ _ => .int _
theorem od_pow : OpD X (binaryOp .Pow) (intK (fun i j => decide (0 ≤ j ∧ j ≤ 1000000 ∧ i.natAbs < 2 ^ 64)) fun i j => .int (i ^ j.toNat)) := opD_int op_pow (fun i j h => by simpa [CPow] using h) fun _ _ => .int _
theorem od_ltI : OpD X (compareOp .Lt) (intK yes2 fun i j => .bl (decide (i < j))) := opD_int0 op_lt fun _ _ => .bl _
theorem od_leI : OpD X (compareOp .LtE) (intK yes2 fun i j => .bl (decide (i ≤ j))) := opD_int0 op_le fun _ _ => .bl _
theorem od_gtI : OpD X (compareOp .Gt) (intK yes2 fun i j => .bl (decide (j < i))) := opD_int0 op_gt fun _ _ => .bl _
theorem od_geI : OpD X (compareOp .GtE) (intK yes2 fun i j => .bl (decide (j ≤ i))) := opD_int0 op_ge fun _ _ => .bl _

/-! ### texts -/
def strK (C : Str → Str → Bool) (g : Str → Str → D) : D → D → Option D
  | .str i, .str j => if C i j then some (g i j) else none
  | _, _ => none
theorem opD_str {f : Value → Value → Sem Value} {C : Str → Str → Prop} {Cb : Str → Str → Bool} {g : Str → Str → V} {g' : Str → Str → D} (h : OpR X f (fun x y H Q => ∃ i j, x = .str i ∧ y = .str j ∧ C i j ∧ Q (g i j) H)) (hc : ∀ i j, Cb i j = true → C i j) (hg : ∀ i j, Sc (g i j) (g' i j)) : OpD X f (strK Cb g') :=
  ⟨_, h, opS2 fun F H fp x y a b d f1 f2 Q w ra m1 rb m2 e q => by
    cases a <;> cases b <;> try (simp [strK] at e)
    rename_i i j
    obtain ⟨c, rfl⟩ := e
    rw [ra.str_inv, rb.str_inv]
    exact ⟨i, j, rfl, rfl, hc i j c, gives w q (hg i j)⟩⟩
theorem opD_str0 {f : Value → Value → Sem Value} {g : Str → Str → V} {g' : Str → Str → D} (h : OpR X f (fun x y H Q => ∃ i j, x = .str i ∧ y = .str j ∧ Q (g i j) H)) (hg : ∀ i j, Sc (g i j) (g' i j)) : OpD X f (strK (fun _ _ => true) g') :=
  ⟨_, h, opS2 fun F H fp x y a b d f1 f2 Q w ra m1 rb m2 e q => by
    cases a <;> cases b <;> try (simp [strK] at e)
    rename_i i j
    subst e
    rw [ra.str_inv, rb.str_inv]
    exact ⟨i, j, rfl, rfl, gives w q (hg i j)⟩⟩
def yesS : Str → Str → Bool := fun _ _ => true
theorem od_addS : OpD X (binaryOp .Add) (strK (fun i j => decide (i.length + j.length ≤ sizeLine)) fun i j => .str (i ++ j)) := opD_str op_add_str (fun _ _ h => of_decide_eq_true h) fun _ _ => .str _
theorem od_ltS : OpD X (compareOp .Lt) (strK yesS fun i j => .bl (decide (i.cps.toList < j.cps.toList))) := opD_str0 op_lt_str fun _ _ => .bl _
theorem od_leS : OpD X (compareOp .LtE) (strK yesS fun i j => .bl (!decide (j.cps.toList < i.cps.toList))) := opD_str0 op_le_str fun _ _ => .bl _
theorem od_gtS : OpD X (compareOp .Gt) (strK yesS fun i j => .bl (decide (j.cps.toList < i.cps.toList))) := opD_str0 op_gt_str fun _ _ => .bl _
theorem od_geS : OpD X (compareOp .GtE) (strK yesS fun i j => .bl (!decide (i.cps.toList < j.cps.toList))) := opD_str0 op_ge_str fun _ _ => .bl _
/-- a text stands within a text -/
def subS (i j : Str) : Bool := !(Builtin.Str.occurrences j i 0 j.length 1).isEmpty
theorem od_inS : OpD X (compareOp .In) (strK yesS fun i j => .bl (subS i j)) := opD_str0 op_in_str fun _ _ => .bl _
theorem od_niS : OpD X (compareOp .NotIn) (strK yesS fun i j => .bl (!subS i j)) := opD_str0 op_notin_str fun _ _ => .bl _

/-! ### equality of plain values -/
def toV : D → Option V
  | .non => some .non
  | .bl b => some (.bl b)
  | .int i => some (.int i)
  | .str s => some (.str s)
  | _ => none
def eqSc : D → D → Option Bool
  | .non, .non => some true
  | .int i, .int j => some (decide (i = j))
  | .bl i, .bl j => some (decide (i = j))
  | .str i, .str j => some (decide (i = j))
  | .non, .int _ => some false
  | .int _, .non => some false
  | .non, .bl _ => some false
  | .bl _, .non => some false
  | .non, .str _ => some false
  | .str _, .non => some false
  | .int _, .str _ => some false
  | .str _, .int _ => some false
  | .bl _, .str _ => some false
  | .str _, .bl _ => some false
  | _, _ => none
theorem eqSc_inv {G : Gam} {F : Addr → Prop} {H : Hp} {x y : V} {a b : D} {f1 f2 : List Addr} {c : Bool} (ra : R G F H x a f1) (rb : R G F H y b f2) (e : eqSc a b = some c) : scal x y = true ∧ decide (x = y) = c := by
  cases a <;> cases b <;> first
    | (simp only [eqSc] at e; cases e; done)
    | (simp only [eqSc, Option.some.injEq] at e; subst e; cases ra; cases rb; exact ⟨rfl, by simp⟩)
theorem od_eqSc : OpD X (compareOp .Eq) (fun a b => (eqSc a b).map .bl) := ⟨_, op_eq, opS2 fun F H fp x y a b d f1 f2 Q w ra m1 rb m2 e q => by
  obtain ⟨c, e1, rfl⟩ := Option.map_eq_some_iff.mp e
  obtain ⟨h1, h2⟩ := eqSc_inv ra rb e1
  exact ⟨h1, gives w q (by rw [h2]; exact .bl c)⟩⟩
theorem od_neSc : OpD X (compareOp .NotEq) (fun a b => (eqSc a b).map fun c => .bl (!c)) := ⟨_, op_ne, opS2 fun F H fp x y a b d f1 f2 Q w ra m1 rb m2 e q => by
  obtain ⟨c, e1, rfl⟩ := Option.map_eq_some_iff.mp e
  obtain ⟨h1, h2⟩ := eqSc_inv ra rb e1
  exact ⟨h1, gives w q (by rw [h2]; exact .bl (!c))⟩⟩
/-- x is None -/
def isNo : D → D → Option D
  | .ref _, .non => none
  | .ty _, .non => none
  | .exc _ _, .non => none
  | .set _, .non => none
  | .non, .non => some (.bl true)
  | _, .non => some (.bl false)
  | _, _ => none
def isNot : D → D → Option D := fun a b => match isNo a b with
  | some (.bl c) => some (.bl (!c))
  | _ => none
theorem isNo_inv {G : Gam} {F : Addr → Prop} {H : Hp} {x y : V} {a b : D} {f1 f2 : List Addr} {d : D} (ra : R G F H x a f1) (rb : R G F H y b f2) (e : isNo a b = some d) : y = .non ∧ d = .bl (decide (x = .non)) := by
  cases b <;> cases a <;> first
    | (simp only [isNo] at e; cases e; done)
    | (simp only [isNo, Option.some.injEq] at e; subst e; cases rb; cases ra <;> exact ⟨rfl, by simp⟩)
theorem od_is : OpD X (compareOp .Is) isNo := ⟨_, op_isN, opS2 fun F H fp x y a b d f1 f2 Q w ra m1 rb m2 e q => by
  obtain ⟨rfl, rfl⟩ := isNo_inv ra rb e
  exact ⟨rfl, gives w q (.bl _)⟩⟩
theorem od_isnt : OpD X (compareOp .IsNot) isNot := ⟨_, op_notN, opS2 fun F H fp x y a b d f1 f2 Q w ra m1 rb m2 e q => by
  unfold isNot at e
  split at e
  · rename_i c hc
    obtain ⟨rfl, h2⟩ := isNo_inv ra rb hc
    cases h2
    cases e
    exact ⟨rfl, gives w q (.bl _)⟩
  · cases e⟩
end
end DL

set_option Elab.async false
set_option linter.all false
set_option maxRecDepth 100000
set_option maxHeartbeats 4000000
/-! DL10: lists and tuples by data. -/
namespace DL
open PySem PySem.Spec PyProof.Rows L2

def kPy : Key → PyData
  | .inl i => .int i
  | .inr x => .str x
def keyPy : DKey → PyData
  | .inl k => kPy k
  | .inr ks => .tuple (ks.map kPy)
mutual
/-- data without flags -/
def toPy : D → Option PyData
  | .non => some .none
  | .bl b => some (.bool b)
  | .int i => some (.int i)
  | .str s => some (.str s)
  | .tup xs => (toPys xs).map .tuple
  | .lst _ xs => (toPys xs).map .list
  | .dic _ kvs => (toPyE kvs).map fun ps => .dict ((kvs.map fun p => keyPy p.1).zip ps)
  | _ => none
def toPys : List D → Option (List PyData)
  | [] => some []
  | x :: xs => match toPy x, toPys xs with
    | some y, some ys => some (y :: ys)
    | _, _ => none
def toPyE : List (DKey × D) → Option (List PyData)
  | [] => some []
  | (_, v) :: kvs => match toPy v, toPyE kvs with
    | some b, some l => some (b :: l)
    | _, _ => none
end
section
variable {X : Cx} {pins : List (Addr × Obj)} {σ : L2.St} {H : Hp} {s : Shared} {F : Addr → Prop}
theorem toPyE_len : ∀ {kvs : List (DKey × D)} {ps : List PyData}, toPyE kvs = some ps → ps.length = kvs.length
  | [], ps, h => by cases h; rfl
  | (k, v) :: kvs, ps, h => by
    simp only [toPyE] at h
    split at h
    · rename_i h1 h2
      cases h
      simp [toPyE_len h2]
    · cases h
theorem Pairs_vals {P : Program} {w : World} {h : Heap} : ∀ {es : List DictEntry} {vs : List (Key × Value)} {kvs : List (Key × V)}, Pairs (mixKind P w) es vs → KV kvs vs → Vals (kvs.map (·.2)) (es.map (·.val)) ∧ ∃ as, ReadsAll h (es.map (·.key)) (kvs.map fun p => kPy p.1) as
  | _, _, kvs, .nil, k => by cases k; exact ⟨.nil, _, .nil⟩
  | _, _, kvs, .cons (e := e) h1 h2 t, k => by
    cases k with
    | cons h3 k =>
      obtain ⟨q1, as, q2⟩ := Pairs_vals (h := h) t k
      refine ⟨.cons (by show L2.RelV _ e.val; rw [h2]; exact h3.2) q1, ?_⟩
      have h1' := h1
      rw [← h3.1] at h1'
      rename_i p ps
      obtain ⟨pk, pv⟩ := p
      rcases keyIs_shape (show keyIs pk e.key = true from h1') with ⟨i, t, e1, e2⟩ | ⟨x, t, e1, e2⟩
      · subst e1
        rw [List.map_cons, List.map_cons, e2]
        exact ⟨_, .cons (.int i t) q2⟩
      · subst e1
        rw [List.map_cons, List.map_cons, e2]
        exact ⟨_, .cons (.str x t) q2⟩
theorem kVs_reads {h : Heap} : ∀ {ks : List Key} {us : List Value}, Vals (ks.map kV) us → ∃ as, ReadsAll h us (ks.map kPy) as
  | [], us, r => by cases r; exact ⟨_, .nil⟩
  | k :: ks, us, r => by
    cases r with
    | cons r1 r2 =>
      obtain ⟨as, q⟩ := kVs_reads (h := h) r2
      cases k with
      | inl i => obtain ⟨t, rfl⟩ := r1; exact ⟨_, .cons (.int i t) q⟩
      | inr x => obtain ⟨t, rfl⟩ := r1; exact ⟨_, .cons (.str x t) q⟩
theorem KT_vals (I : Inv X pins σ H s) : ∀ {kvs : List (List Key × V)} {xs : List (List Key × Addr × Value)}, Paired (fun (p : List Key × V) (q : List Key × Addr × Value) => p.1 = q.1 ∧ H q.2.1 = some (.tup (p.1.map kV)) ∧ RelV p.2 q.2.2) kvs xs →
    Vals (kvs.map (·.2)) (xs.map fun x => x.2.2) ∧ ∃ as, ReadsAll s.heap (xs.map fun x => .ref x.2.1) (kvs.map fun p => .tuple (p.1.map kPy)) as
  | _, _, .nil => ⟨.nil, _, .nil⟩
  | _, _, .cons h3 k => by
    obtain ⟨q1, as, q2⟩ := KT_vals I k
    refine ⟨.cons h3.2.2 q1, ?_⟩
    obtain ⟨its, rv, ⟨o, ho, hc, n, hd⟩, _⟩ := I.tuple (SqT.of h3.2.1)
    obtain ⟨bs, q3⟩ := kVs_reads (h := s.heap) rv
    exact ⟨_, .cons (.tuple ho hc hd q3) q2⟩
/-- a dict's object: its keys, its values -/
theorem dict_at (I : Inv X pins σ H s) {a : Addr} {es : List (DKey × V)} (h : (∃ l, Rd H a (.dK l) ∧ es = l.map tagK) ∨ ∃ l, Rd H a (.dT l) ∧ es = l.map tagT) :
    (a == sysModules) = false ∧ es.length ≤ sizeLine ∧ ∃ o des ep, s.heap.get? a = some o ∧ o.ExactDict ∧ o.data = .dict des ep ∧ Vals (es.map (·.2)) (des.toList.map (·.val)) ∧ ∃ as, ReadsAll s.heap (des.toList.map (·.key)) (es.map fun p => keyPy p.1) as := by
  rcases h with ⟨l, h, rfl⟩ | ⟨l, h, rfl⟩
  · obtain ⟨z, y, vs, r, o, es, ep, h1, h2, h3, h4, h5, _⟩ := dk_rd I.hok h
    obtain ⟨q1, as, q2⟩ := Pairs_vals (h := s.heap) h5 r
    exact ⟨y, by simpa using z, o, es, ep, h1, h2, h3, by simpa [Function.comp_def, tagK] using q1, as, by simpa [Function.comp_def, tagK, keyPy] using q2⟩
  · have h' : ObjOk X.prog X.w H s.heap a (.dT l) := by
      rcases h with h | ⟨o, h⟩
      · exact I.hok a _ h
      · exact (I.hok a _ h).2
    obtain ⟨z, y, xs, r, o, es, ep, h1, h2, h3, h4, _⟩ := h'
    obtain ⟨q1, as, q2⟩ := KT_vals I r
    refine ⟨y, by simpa using z, o, es, ep, h1, h2, h3, ?_, as, ?_⟩
    · rw [h4]
      simpa [Function.comp_def, tagT, entryOfKey] using q1
    · rw [h4]
      simpa [Function.comp_def, tagT, entryOfKey, keyPy] using q2
mutual
theorem R.reads (I : Inv X pins σ H s) : ∀ {v : V} {d : D} {fp : List Addr}, R (gam X) F H v d fp → ∀ (u : Value) (p : PyData), RelV v u → toPy d = some p → ∃ as, Reads s.heap u p as
  | _, _, _, .non, u, p, r, e => by cases e; cases r; exact ⟨_, .none⟩
  | _, _, _, .bl b, u, p, r, e => by cases e; cases r; exact ⟨_, .bool b⟩
  | _, _, _, .int i, u, p, r, e => by cases e; obtain ⟨t, rfl⟩ := r; exact ⟨_, .int i t⟩
  | _, _, _, .str z, u, p, r, e => by cases e; obtain ⟨t, rfl⟩ := r; exact ⟨_, .str z t⟩
  | _, _, _, .ref a, u, p, r, e => by cases e
  | _, _, _, .ty n, u, p, r, e => by cases e
  | _, _, _, .tup hs rs, u, p, r, e => by
    obtain ⟨ps, e1, rfl⟩ := Option.map_eq_some_iff.mp e
    cases r
    obtain ⟨its, rv, ⟨o, ho, hc, n, hd⟩, _⟩ := I.tuple hs
    obtain ⟨as, hr⟩ := Rs.reads I rs its ps rv e1
    exact ⟨_, .tuple ho hc hd hr⟩
  | _, _, _, .lstO hs rs, u, p, r, e => by
    obtain ⟨ps, e1, rfl⟩ := Option.map_eq_some_iff.mp e
    cases r
    obtain ⟨its, rv, ⟨o, n, ho, hc, _, hd⟩, _⟩ := I.list (SqL.of hs)
    obtain ⟨as, hr⟩ := Rs.reads I rs its ps rv e1
    exact ⟨_, .list ho hc hd hr⟩
  | _, _, _, .lstF hs rs, u, p, r, e => by
    obtain ⟨ps, e1, rfl⟩ := Option.map_eq_some_iff.mp e
    cases r
    obtain ⟨its, rv, ⟨o, n, ho, hc, _, hd⟩, _⟩ := I.list hs.sq
    obtain ⟨as, hr⟩ := Rs.reads I rs its ps rv e1
    exact ⟨_, .list ho hc hd hr⟩
  | _, _, _, .dicO h re _, u, p, r, e => by
    obtain ⟨ps, e1, rfl⟩ := Option.map_eq_some_iff.mp e
    cases r
    obtain ⟨_, _, o, des, ep, ho, hex, hd, hv, as, hk⟩ := dict_at I (.inl ⟨_, .inl h, rfl⟩)
    obtain ⟨bs, h2⟩ := Re.reads I re _ ps hv e1
    have hl := toPyE_len e1
    refine ⟨_, .dict (kvs := (_ : List PyData).zip ps) ho hex.1 hd (as := as) (bs := bs) ?_ ?_⟩
    · rw [List.map_fst_zip (by simp [hl])]
      have e3 := congrArg (List.map keyPy) re.keys
      simp only [List.map_map] at e3 hk ⊢
      have e4 : _ = _ := e3
      simp only [Function.comp_def] at e4 hk ⊢
      rw [e4]
      exact hk
    · rw [List.map_snd_zip (by simp [hl])]
      exact h2
  | _, _, _, .dicF _ h re _, u, p, r, e => by
    obtain ⟨ps, e1, rfl⟩ := Option.map_eq_some_iff.mp e
    cases r
    obtain ⟨_, _, o, des, ep, ho, hex, hd, hv, as, hk⟩ := dict_at I (.inl ⟨_, h, rfl⟩)
    obtain ⟨bs, h2⟩ := Re.reads I re _ ps hv e1
    have hl := toPyE_len e1
    refine ⟨_, .dict (kvs := (_ : List PyData).zip ps) ho hex.1 hd (as := as) (bs := bs) ?_ ?_⟩
    · rw [List.map_fst_zip (by simp [hl])]
      have e3 := congrArg (List.map keyPy) re.keys
      simp only [List.map_map] at e3 hk ⊢
      have e4 : _ = _ := e3
      simp only [Function.comp_def] at e4 hk ⊢
      rw [e4]
      exact hk
    · rw [List.map_snd_zip (by simp [hl])]
      exact h2
  | _, _, _, .ditO h re _ _, u, p, r, e => by
    obtain ⟨ps, e1, rfl⟩ := Option.map_eq_some_iff.mp e
    cases r
    obtain ⟨_, _, o, des, ep, ho, hex, hd, hv, as, hk⟩ := dict_at I (.inr ⟨_, .inl h, rfl⟩)
    obtain ⟨bs, h2⟩ := Re.reads I re _ ps hv e1
    have hl := toPyE_len e1
    refine ⟨_, .dict (kvs := (_ : List PyData).zip ps) ho hex.1 hd (as := as) (bs := bs) ?_ ?_⟩
    · rw [List.map_fst_zip (by simp [hl])]
      have e3 := congrArg (List.map keyPy) re.keys
      simp only [List.map_map] at e3 hk ⊢
      have e4 : _ = _ := e3
      simp only [Function.comp_def] at e4 hk ⊢
      rw [e4]
      exact hk
    · rw [List.map_snd_zip (by simp [hl])]
      exact h2
  | _, _, _, .ditF _ h re _ _, u, p, r, e => by
    obtain ⟨ps, e1, rfl⟩ := Option.map_eq_some_iff.mp e
    cases r
    obtain ⟨_, _, o, des, ep, ho, hex, hd, hv, as, hk⟩ := dict_at I (.inr ⟨_, h, rfl⟩)
    obtain ⟨bs, h2⟩ := Re.reads I re _ ps hv e1
    have hl := toPyE_len e1
    refine ⟨_, .dict (kvs := (_ : List PyData).zip ps) ho hex.1 hd (as := as) (bs := bs) ?_ ?_⟩
    · rw [List.map_fst_zip (by simp [hl])]
      have e3 := congrArg (List.map keyPy) re.keys
      simp only [List.map_map] at e3 hk ⊢
      have e4 : _ = _ := e3
      simp only [Function.comp_def] at e4 hk ⊢
      rw [e4]
      exact hk
    · rw [List.map_snd_zip (by simp [hl])]
      exact h2
  | _, _, _, .insO _ _ _, u, p, r, e => by cases e
  | _, _, _, .insF _ _ _ _, u, p, r, e => by cases e
theorem Rs.reads (I : Inv X pins σ H s) : ∀ {v : List V} {d : List D} {fp : List Addr}, Rs (gam X) F H v d fp → ∀ (u : List Value) (p : List PyData), Vals v u → toPys d = some p → ∃ as, ReadsAll s.heap u p as
  | _, _, _, .nil, u, p, r, e => by cases e; cases r; exact ⟨_, .nil⟩
  | _, _, _, .cons a t, u, p, r, e => by
    simp only [toPys] at e
    split at e
    · rename_i y ys h1 h2
      cases e
      cases r with
      | cons r1 r2 =>
        obtain ⟨as, q1⟩ := R.reads I a _ y r1 h1
        obtain ⟨bs, q2⟩ := Rs.reads I t _ ys r2 h2
        exact ⟨_, .cons q1 q2⟩
    · cases e
theorem Re.reads (I : Inv X pins σ H s) : ∀ {v : List (DKey × V)} {d : List (DKey × D)} {fp : List Addr}, Re (gam X) F H v d fp → ∀ (u : List Value) (p : List PyData), Vals (v.map (·.2)) u → toPyE d = some p → ∃ as, ReadsAll s.heap u p as
  | _, _, _, .nil, u, p, r, e => by cases e; cases r; exact ⟨_, .nil⟩
  | _, _, _, .cons a t, u, p, r, e => by
    simp only [toPyE] at e
    split at e
    · rename_i y ys h1 h2
      cases e
      cases r with
      | cons r1 r2 =>
        obtain ⟨as, q1⟩ := R.reads I a _ y r1 h1
        obtain ⟨bs, q2⟩ := Re.reads I t _ ys r2 h2
        exact ⟨_, .cons q1 q2⟩
    · cases e
end
end

/-! ### equality of lists and tuples -/
def eqPy (a b : D) : Option Bool := match toPy a, toPy b with
  | some x, some y => if SeqAt.shaped x = true ∧ SeqAt.shaped y = true then some (PyData.eqv x y) else none
  | _, _ => none
def rEqPy (X : Cx) (neg : Bool) : R2 := fun x y H Q => ∃ (F : Addr → Prop) (a b : D) (f1 f2 : List Addr) (c : Bool), R (gam X) F H x a f1 ∧ R (gam X) F H y b f2 ∧ eqPy a b = some c ∧ Q (.bl (neg != c)) H
section
variable {X : Cx}
theorem eqPy_inv {a b : D} {c : Bool} (h : eqPy a b = some c) : ∃ x y, toPy a = some x ∧ toPy b = some y ∧ SeqAt.shaped x = true ∧ SeqAt.shaped y = true ∧ c = PyData.eqv x y := by
  unfold eqPy at h
  split at h
  · rename_i x y h1 h2
    split at h
    · rename_i hs
      cases h
      exact ⟨x, y, h1, h2, hs.1, hs.2, rfl⟩
    · cases h
  · cases h
theorem op_eqPy (hu : X.A.units + 64 < cLine) : OpR X (compareOp .Eq) (rEqPy X false) := by
  intro pins s σ H x y v u Q I rx ry h
  obtain ⟨F, a, b, f1, f2, c, ra, rb, e, q⟩ := h
  obtain ⟨p1, p2, e1, e2, s1, s2, rfl⟩ := eqPy_inv e
  obtain ⟨as, r1⟩ := ra.reads I v p1 rx e1
  obtain ⟨bs, r2⟩ := rb.reads I u p2 ry e2
  exact SeqAt.compareEq_shaped r1 r2 s1 s2 hu ⟨.bl _, H, I, rfl, by simpa using q⟩
theorem op_nePy (hu : X.A.units + 64 < cLine) : OpR X (compareOp .NotEq) (rEqPy X true) := by
  intro pins s σ H x y v u Q I rx ry h
  obtain ⟨F, a, b, f1, f2, c, ra, rb, e, q⟩ := h
  obtain ⟨p1, p2, e1, e2, s1, s2, rfl⟩ := eqPy_inv e
  obtain ⟨as, r1⟩ := ra.reads I v p1 rx e1
  obtain ⟨bs, r2⟩ := rb.reads I u p2 ry e2
  exact SeqAt.compareNe_shaped r1 r2 s1 s2 hu ⟨.bl _, H, I, rfl, by simpa using q⟩
theorem od_eqPy (hu : X.A.units + 64 < cLine) : OpD X (compareOp .Eq) (fun a b => (eqPy a b).map .bl) := ⟨_, op_eqPy hu, opS2 fun F H fp x y a b d f1 f2 Q w ra m1 rb m2 e q => by
  obtain ⟨c, e1, rfl⟩ := Option.map_eq_some_iff.mp e
  exact ⟨F, a, b, f1, f2, c, ra, rb, e1, gives w q (by simpa using Sc.bl c)⟩⟩
theorem od_nePy (hu : X.A.units + 64 < cLine) : OpD X (compareOp .NotEq) (fun a b => (eqPy a b).map fun c => .bl (!c)) := ⟨_, op_nePy hu, opS2 fun F H fp x y a b d f1 f2 Q w ra m1 rb m2 e q => by
  obtain ⟨c, e1, rfl⟩ := Option.map_eq_some_iff.mp e
  exact ⟨F, a, b, f1, f2, c, ra, rb, e1, gives w q (by simpa using Sc.bl (!c))⟩⟩

/-! ### x in a list, a tuple -/
/-- some item is equal to x -/
def hasPy (x : PyData) : List PyData → Bool
  | [] => false
  | y :: ys => PyData.eqv y x || hasPy x ys
def inPy (a b : D) : Option Bool := match toPy a, b with
  | some x, .lst _ xs => match toPys xs with
    | some ys => if SeqAt.shaped x = true ∧ ys.all SeqAt.shaped = true then some (hasPy x ys) else none
    | none => none
  | some x, .tup xs => match toPys xs with
    | some ys => if SeqAt.shaped x = true ∧ ys.all SeqAt.shaped = true then some (hasPy x ys) else none
    | none => none
  | _, _ => none
open Classical in
/-- an item's answer, by the value -/
noncomputable def ansPy (h : Heap) (x : PyData) (u : Value) : Bool := decide (∃ y as, Reads h u y as ∧ PyData.eqv y x = true)
open Classical in
theorem ansPy_of {h : Heap} {x y : PyData} {u : Value} {as : List Addr} (r : Reads h u y as) : ansPy h x u = PyData.eqv y x := by
  unfold ansPy
  cases e : PyData.eqv y x with
  | true => exact decide_eq_true ⟨y, as, r, e⟩
  | false =>
    refine decide_eq_false ?_
    rintro ⟨y', as', r', e'⟩
    obtain ⟨rfl, _⟩ := Reads.unique r y' as' r'
    rw [e] at e'; cases e'
theorem any_ans {h : Heap} {x : PyData} : ∀ {us : List Value} {ys : List PyData} {as : List Addr}, ReadsAll h us ys as → us.any (ansPy h x) = hasPy x ys
  | _, _, _, .nil => rfl
  | _, _, _, .cons r t => by rw [List.any_cons, ansPy_of r, any_ans t]; rfl
theorem ans_at {A : Around} {s : Shared} {x : PyData} {v : Value} {bs : List Addr} (rx : Reads s.heap v x bs) (sx : SeqAt.shaped x = true) (hu : A.units + 64 < cLine) : ∀ {us : List Value} {ys : List PyData} {as : List Addr}, ReadsAll s.heap us ys as → ys.all SeqAt.shaped = true → ∀ u ∈ us, SeqAt.EqAt A s u v (ansPy s.heap x u)
  | _, _, _, .nil, _ => fun u m => nomatch m
  | _, _, _, .cons r t, e => fun u m => by
    rw [List.all_cons, Bool.and_eq_true] at e
    rcases List.mem_cons.mp m with rfl | m
    · rw [ansPy_of r]
      exact SeqAt.eqAt_reads _ _ A s _ _ _ _ r rx (SeqAt.canLay_of_shaped e.1) (SeqAt.canLay_of_shaped sx) (SeqAt.room_of_shaped e.1 hu)
    · exact ans_at rx sx hu t e.2 u m
theorem toPys_get : ∀ {xs : List D} {ys : List PyData}, toPys xs = some ys → ys.length = xs.length
  | [], ys, h => by cases h; rfl
  | x :: xs, ys, h => by
    simp only [toPys] at h
    split at h
    · rename_i h1 h2
      cases h
      simp [toPys_get h2]
    · cases h
theorem inPy_inv {a b : D} {c : Bool} (h : inPy a b = some c) : ∃ x xs ys, toPy a = some x ∧ (b = .tup xs ∨ ∃ u, b = .lst u xs) ∧ toPys xs = some ys ∧ SeqAt.shaped x = true ∧ ys.all SeqAt.shaped = true ∧ c = hasPy x ys := by
  unfold inPy at h
  split at h
  · rename_i x u xs h1
    split at h
    · rename_i ys h2
      split at h
      · rename_i hs
        cases h
        exact ⟨x, xs, ys, h1, .inr ⟨u, rfl⟩, h2, hs.1, hs.2, rfl⟩
      · cases h
    · cases h
  · rename_i x xs h1
    split at h
    · rename_i ys h2
      split at h
      · rename_i hs
        cases h
        exact ⟨x, xs, ys, h1, .inl rfl, h2, hs.1, hs.2, rfl⟩
      · cases h
    · cases h
  · cases h
def rInPy (X : Cx) (neg : Bool) : R2 := fun x y H Q => ∃ (F : Addr → Prop) (a b : D) (f1 f2 : List Addr) (c : Bool), R (gam X) F H x a f1 ∧ R (gam X) F H y b f2 ∧ inPy a b = some c ∧ Q (.bl (neg != c)) H
/-- the items as they stand -/
theorem seq_at {pins : List (Addr × Obj)} {σ : L2.St} {H : Hp} {s : Shared} {F : Addr → Prop} {y : V} {b : D} {f2 : List Addr} {xs : List D} {u : Value} (I : Inv X pins σ H s) (rb : R (gam X) F H y b f2) (e : b = .tup xs ∨ ∃ u, b = .lst u xs) (ry : RelV y u) :
    ∃ p vs its fp, u = .ref p ∧ y = .ref p ∧ Rs (gam X) F H vs xs fp ∧ Vals vs its ∧ (s.heap.IsTuple p its.toArray ∨ s.heap.IsList p its.toArray) := by
  rcases e with rfl | ⟨w, rfl⟩
  · cases rb with
    | tup hs rs =>
      cases ry
      obtain ⟨its, rv, pl, _⟩ := I.tuple hs
      exact ⟨_, _, its, _, rfl, rfl, rs, rv, .inl pl⟩
  · cases rb with
    | lstO hs rs =>
      cases ry
      obtain ⟨its, rv, pl, _⟩ := I.list (SqL.of hs)
      exact ⟨_, _, its, _, rfl, rfl, rs, rv, .inr pl.isList⟩
    | lstF hs rs =>
      cases ry
      obtain ⟨its, rv, pl, _⟩ := I.list hs.sq
      exact ⟨_, _, its, _, rfl, rfl, rs, rv, .inr pl.isList⟩
theorem op_inPy (hu : X.A.units + 65 < cLine) : OpR X (compareOp .In) (rInPy X false) := by
  intro pins s σ H x y v u Q I rx ry h
  obtain ⟨F, a, b, f1, f2, c, ra, rb, e, q⟩ := h
  obtain ⟨p, xs, ys, e1, e2, e3, s1, s2, rfl⟩ := inPy_inv e
  obtain ⟨as, r1⟩ := ra.reads I v p rx e1
  obtain ⟨l, vs, its, fp, rfl, rfl, rs, rv, hl⟩ := seq_at I rb e2 ry
  obtain ⟨bs, r2⟩ := rs.reads I its ys rv e3
  have hu' : X.A.in1.units + 64 < cLine := by show X.A.units + 1 + 64 < cLine; omega
  have fin : EP X pins σ Q (.bool (its.toArray.any (ansPy s.heap p))) s := ⟨.bl _, H, I, rfl, by
    rw [show its.toArray.any (ansPy s.heap p) = its.any (ansPy s.heap p) by simp, any_ans r2]
    simpa using q⟩
  rcases hl with hl | hl
  · exact SeqAt.in_tupleAt (ansPy s.heap p) hl (fun w hw => ans_at r1 s1 hu' r2 s2 w (by simpa using hw)) fin
  · exact SeqAt.in_listAt (ansPy s.heap p) hl (fun w hw => ans_at r1 s1 hu' r2 s2 w (by simpa using hw)) fin
theorem op_niPy (hu : X.A.units + 65 < cLine) : OpR X (compareOp .NotIn) (rInPy X true) := by
  intro pins s σ H x y v u Q I rx ry h
  obtain ⟨F, a, b, f1, f2, c, ra, rb, e, q⟩ := h
  obtain ⟨p, xs, ys, e1, e2, e3, s1, s2, rfl⟩ := inPy_inv e
  obtain ⟨as, r1⟩ := ra.reads I v p rx e1
  obtain ⟨l, vs, its, fp, rfl, rfl, rs, rv, hl⟩ := seq_at I rb e2 ry
  obtain ⟨bs, r2⟩ := rs.reads I its ys rv e3
  have hu' : X.A.in1.units + 64 < cLine := by show X.A.units + 1 + 64 < cLine; omega
  have fin : EP X pins σ Q (.bool (!its.toArray.any (ansPy s.heap p))) s := ⟨.bl _, H, I, rfl, by
    rw [show its.toArray.any (ansPy s.heap p) = its.any (ansPy s.heap p) by simp, any_ans r2]
    simpa using q⟩
  rcases hl with hl | hl
  · exact SeqAt.notIn_tupleAt (ansPy s.heap p) hl (fun w hw => ans_at r1 s1 hu' r2 s2 w (by simpa using hw)) fin
  · exact SeqAt.notIn_listAt (ansPy s.heap p) hl (fun w hw => ans_at r1 s1 hu' r2 s2 w (by simpa using hw)) fin
theorem od_inPy (hu : X.A.units + 65 < cLine) : OpD X (compareOp .In) (fun a b => (inPy a b).map .bl) := ⟨_, op_inPy hu, opS2 fun F H fp x y a b d f1 f2 Q w ra m1 rb m2 e q => by
  obtain ⟨c, e1, rfl⟩ := Option.map_eq_some_iff.mp e
  exact ⟨F, a, b, f1, f2, c, ra, rb, e1, gives w q (by simpa using Sc.bl c)⟩⟩
theorem od_niPy (hu : X.A.units + 65 < cLine) : OpD X (compareOp .NotIn) (fun a b => (inPy a b).map fun c => .bl (!c)) := ⟨_, op_niPy hu, opS2 fun F H fp x y a b d f1 f2 Q w ra m1 rb m2 e q => by
  obtain ⟨c, e1, rfl⟩ := Option.map_eq_some_iff.mp e
  exact ⟨F, a, b, f1, f2, c, ra, rb, e1, gives w q (by simpa using Sc.bl (!c))⟩⟩
end
end DL

set_option Elab.async false
set_option linter.all false
set_option maxRecDepth 100000
set_option maxHeartbeats 4000000
/-! DL11: joining, indexing, lengths, copies. -/
namespace DL
open PySem PySem.Spec PyProof.Rows L2

section
variable {G : Gam} {F : Addr → Prop} {H : Hp} {fp : List Addr}
/-- a new list of shared items -/
theorem q_lst {vs : List V} {ds : List D} {Q : VK} (w : Wd F H fp) (rs : Rs G F H vs ds []) (q : ∀ v F' H' fv, Ext F H [] F' H' fv → Wd F' H' fv → R G F' H' v (.lst true ds) fv → Q v H') : ∀ p, H p = none → Q (.ref p) (upd H p (.lst vs)) := fun p hp =>
  q _ F _ [p] (ext_own hp) (wd_own w hp trivial) (.lstO upd_same (rs.keep (ext_new hp) w.nil fun _ m => nomatch m))
theorem q_tup {vs : List V} {ds : List D} {Q : VK} (w : Wd F H fp) (rs : Rs G F H vs ds []) (q : ∀ v F' H' fv, Ext F H [] F' H' fv → Wd F' H' fv → R G F' H' v (.tup ds) fv → Q v H') : ∀ p, H p = none → Q (.ref p) (upd H p (.tup vs)) := fun p hp =>
  q _ F _ [] (ext_new hp) (wd_new w hp) (.tup (SqT.of upd_same) (rs.keep (ext_new hp) w.nil fun _ m => nomatch m))
/-- a list or tuple of shared items, as it stands -/
theorem R.lst_inv {v : V} {u : Bool} {xs : List D} {f : List Addr} (r : R G F H v (.lst u xs) f) (s : solids xs = true) : ∃ p vs, v = .ref p ∧ SqL G.K H p vs ∧ Rs G F H vs xs [] := by
  cases r with
  | lstO h rs => cases Rs.solid0 rs s; exact ⟨_, _, rfl, SqL.of h, rs⟩
  | lstF h rs => exact ⟨_, _, rfl, h.sq, rs⟩
theorem R.tup_inv {v : V} {xs : List D} {f : List Addr} (r : R G F H v (.tup xs) f) (s : solids xs = true) : ∃ p vs, v = .ref p ∧ SqT G.K H p vs ∧ Rs G F H vs xs [] := by
  cases r with
  | tup h rs => cases Rs.solid0 rs s; exact ⟨_, _, rfl, h, rs⟩
theorem Rs.app {v1 v2 : List V} {d1 d2 : List D} (a : Rs G F H v1 d1 []) (b : Rs G F H v2 d2 []) : Rs G F H (v1 ++ v2) (d1 ++ d2) [] := Rs.append (f1 := []) (f2 := []) a b
theorem Rs.dropS : ∀ {vs : List V} {ds : List D} (n : Nat), Rs G F H vs ds [] → Rs G F H (vs.drop n) (ds.drop n) []
  | _, _, 0, h => h
  | [], _, n + 1, h => by cases h; exact .nil
  | v :: vs, _, n + 1, h => by
    generalize e : ([] : List Addr) = g at h
    cases h with
    | cons r t =>
      obtain ⟨e1, e2⟩ := List.append_eq_nil_iff.mp e.symm
      subst e1 e2
      exact Rs.dropS n t
theorem Rs.takeS : ∀ {vs : List V} {ds : List D} (n : Nat), Rs G F H vs ds [] → Rs G F H (vs.take n) (ds.take n) []
  | _, _, 0, h => by simp; exact .nil
  | [], _, n + 1, h => by cases h; exact .nil
  | v :: vs, _, n + 1, h => by
    generalize e : ([] : List Addr) = g at h
    cases h with
    | cons r t =>
      obtain ⟨e1, e2⟩ := List.append_eq_nil_iff.mp e.symm
      subst e1 e2
      exact .cons (f1 := []) (f2 := []) r (Rs.takeS n t)
theorem Rs.rep (n : Nat) {vs : List V} {ds : List D} (h : Rs G F H vs ds []) : Rs G F H (List.replicate n vs).flatten (List.replicate n ds).flatten [] := by
  induction n with
  | zero => exact .nil
  | succ n ih => simp only [List.replicate_succ, List.flatten_cons]; exact h.app ih
theorem solids_of {xs : List D} {i : Nat} {d : D} (s : solids xs = true) (e : xs[i]? = some d) : solid d = true := by
  induction xs generalizing i with
  | nil => simp at e
  | cons x xs ih =>
    simp only [solids, Bool.and_eq_true] at s
    cases i with
    | zero => simp at e; subst e; exact s.1
    | succ i => exact ih s.2 (by simpa using e)
/-- one item -/
theorem Rs.at0 {vs : List V} {ds : List D} {i : Nat} {d : D} (h : Rs G F H vs ds []) (e : ds[i]? = some d) : ∃ v, vs[i]? = some v ∧ R G F H v d [] := by
  obtain ⟨v, f1, h1, h2, h3⟩ := h.getA e
  have : f1 = [] := by
    cases f1 with
    | nil => rfl
    | cons a l => exact nomatch h3 a List.mem_cons_self
  subst this
  exact ⟨v, h1, h2⟩
theorem atI_len {α β : Type} {xs : List α} {ys : List β} {i : Int} {d : β} (hl : xs.length = ys.length) (e : atI ys i = some d) : ∃ j : Nat, ys[j]? = some d ∧ ∀ v, xs[j]? = some v → atI xs i = some v := by
  unfold atI at e ⊢
  rw [hl]
  cases h : ixN ys.length i with
  | none => rw [h] at e; cases e
  | some j => rw [h] at e; exact ⟨j, e, fun v hv => hv⟩
/-- any item, shared -/
theorem Rs.atI0 {vs : List V} {ds : List D} {i : Int} {d : D} {f : List Addr} (h : Rs G F H vs ds f) (s : solid d = true) (e : atI ds i = some d) : ∃ v, atI vs i = some v ∧ R G F H v d [] := by
  obtain ⟨j, h1, h2⟩ := atI_len (xs := vs) h.length e
  obtain ⟨v, f1, h3, h4, _⟩ := h.getA h1
  have z := h4.solid0 s
  subst z
  exact ⟨v, h2 v h3, h4⟩
end

section
variable {X : Cx}
/-! a + b -/
def catL : D → D → Option D
  | .lst _ xs, .lst _ ys => if solids xs && solids ys && decide (xs.length + ys.length ≤ sizeLine) then some (.lst true (xs ++ ys)) else none
  | _, _ => none
def catT : D → D → Option D
  | .tup xs, .tup ys => if solids xs && solids ys && decide (xs.length + ys.length ≤ sizeLine) then some (.tup (xs ++ ys)) else none
  | _, _ => none
def rCatS (K : PySem.W.Frag) : R2 := fun x y H Q => ∃ l b xs zs, x = .ref l ∧ y = .ref b ∧ SqL K H l xs ∧ SqL K H b zs ∧ xs.length + zs.length ≤ sizeLine ∧ ∀ p, H p = none → Q (.ref p) (upd H p (.lst (xs ++ zs)))
theorem op_catS : OpR X (binaryOp .Add) (rCatS X.K) := by
  intro pins s σ H x y v u Q I rx ry h
  obtain ⟨l, b, xs, zs, rfl, rfl, h1, h2, hz, q⟩ := h
  cases rx
  cases ry
  obtain ⟨its, r1, p1, _⟩ := I.list h1
  obtain ⟨its2, r2, p2, _⟩ := I.list h2
  obtain ⟨⟨c1, dd1, data1, sl1⟩, ho1, hc1, n1, hd1⟩ := p1.isList
  obtain ⟨⟨c2, dd2, data2, sl2⟩, ho2, hc2, n2, hd2⟩ := p2.isList
  simp only at hc1 hd1 hc2 hd2
  subst hc1 hd1 hc2 hd2
  refine concat_meets ⟨_, ho1, rfl⟩ ⟨_, ho2, rfl⟩ noFill_list_add seq_list_add F.slot_list_add F.entry_list_add (F.args_list_add_2 _ _)
    (list_addW l b its.toArray its2.toArray n1 n2 dd1 dd2 sl1 sl2 (by rw [List.size_toArray, List.size_toArray, ← r1.length, ← r2.length]; exact hz)) ⟨ho1, ho2, ?_⟩
  have ea : its.toArray ++ its2.toArray = (its ++ its2).toArray := by simp
  rw [ea]
  exact ⟨.ref _, _, I.lnew (t' := s.toks) (r1.append r2) (by rw [List.length_append]; omega), rfl, q _ I.fresh⟩
theorem od_catL : OpD X (binaryOp .Add) catL := ⟨_, op_catS, opS2 fun F H fp x y a b d f1 f2 Q w ra m1 rb m2 e q => by
  cases a <;> cases b <;> try (simp [catL] at e; done)
  rename_i u xs u2 ys
  simp only [catL] at e
  split at e
  · rename_i hc
    simp only [Bool.and_eq_true, decide_eq_true_eq] at hc
    cases e
    obtain ⟨p, vs, rfl, h1, r1⟩ := ra.lst_inv hc.1.1
    obtain ⟨p2, vs2, rfl, h2, r2⟩ := rb.lst_inv hc.1.2
    exact ⟨p, p2, vs, vs2, rfl, rfl, h1, h2, by rw [r1.length, r2.length]; exact hc.2, q_lst w (r1.app r2) q⟩
  · cases e⟩
theorem od_catT : OpD X (binaryOp .Add) catT := ⟨_, op_catA, opS2 fun F H fp x y a b d f1 f2 Q w ra m1 rb m2 e q => by
  cases a <;> cases b <;> try (simp [catT] at e; done)
  rename_i xs ys
  simp only [catT] at e
  split at e
  · rename_i hc
    simp only [Bool.and_eq_true, decide_eq_true_eq] at hc
    cases e
    obtain ⟨p, vs, rfl, h1, r1⟩ := ra.tup_inv hc.1.1
    obtain ⟨p2, vs2, rfl, h2, r2⟩ := rb.tup_inv hc.1.2
    refine ⟨p, p2, vs, vs2, rfl, rfl, h1, h2, by rw [r1.length, r2.length]; exact hc.2, fun z => ?_, fun _ z => ?_, fun _ _ => q_tup w (r1.app r2) q⟩
    · subst z
      cases r1
      exact q _ F H [] (Ext.refl w.nil) w.nil (.tup h2 (by simpa using r2))
    · subst z
      cases r2
      exact q _ F H [] (Ext.refl w.nil) w.nil (.tup h1 (by simpa using r1))
  · cases e⟩
/-- a + b of any kind -/
def addD : D → D → Option D := orK (intK yes2 fun i j => .int (i + j)) (orK (strK (fun i j => decide (i.length + j.length ≤ sizeLine)) fun i j => .str (i ++ j)) (orK catL catT))
theorem od_add : OpD X (binaryOp .Add) addD := od_addI.or (od_addS.or (od_catL.or od_catT))
/-! a * b -/
def repL : D → D → Option D
  | .lst true xs, .int k => if solids xs && decide (-(2 ^ 63) ≤ k ∧ k < 2 ^ 63) && decide (xs.length * k.toNat ≤ sizeLine) then some (.lst true (List.replicate k.toNat xs).flatten) else none
  | _, _ => none
theorem od_repL : OpD X (binaryOp .Mult) repL := ⟨_, op_rep, opS2 fun F H fp x y a b d f1 f2 Q w ra m1 rb m2 e q => by
  cases a <;> try (simp [repL] at e; done)
  rename_i u xs
  cases u <;> try (simp [repL] at e; done)
  cases b <;> try (simp [repL] at e; done)
  rename_i k
  simp only [repL] at e
  split at e
  · rename_i hc
    simp only [Bool.and_eq_true, decide_eq_true_eq] at hc
    cases e
    rw [rb.int_inv]
    cases ra with
    | lstO h rs =>
      cases Rs.solid0 rs hc.1.1
      exact ⟨_, k, _, rfl, rfl, h, hc.1.2.1, hc.1.2.2, by rw [rs.length]; exact hc.2, q_lst w (rs.rep _) q⟩
  · cases e⟩
def mulD : D → D → Option D := orK (intK (fun i j => decide (i.natAbs.log2 + j.natAbs.log2 < 1000000)) fun i j => .int (i * j)) repL
theorem od_mul : OpD X (binaryOp .Mult) mulD := od_mulI.or od_repL
/-! comparisons -/
def ltD : D → D → Option D := orK (intK yes2 fun i j => .bl (decide (i < j))) (strK yesS fun i j => .bl (decide (i.cps.toList < j.cps.toList)))
def leD : D → D → Option D := orK (intK yes2 fun i j => .bl (decide (i ≤ j))) (strK yesS fun i j => .bl (!decide (j.cps.toList < i.cps.toList)))
def gtD : D → D → Option D := orK (intK yes2 fun i j => .bl (decide (j < i))) (strK yesS fun i j => .bl (decide (j.cps.toList < i.cps.toList)))
def geD : D → D → Option D := orK (intK yes2 fun i j => .bl (decide (j ≤ i))) (strK yesS fun i j => .bl (!decide (i.cps.toList < j.cps.toList)))
theorem od_lt : OpD X (compareOp .Lt) ltD := od_ltI.or od_ltS
theorem od_le : OpD X (compareOp .LtE) leD := od_leI.or od_leS
theorem od_gt : OpD X (compareOp .Gt) gtD := od_gtI.or od_gtS
theorem od_ge : OpD X (compareOp .GtE) geD := od_geI.or od_geS
def eqD : D → D → Option D := orK (fun a b => (eqSc a b).map .bl) fun a b => (eqPy a b).map .bl
def neD : D → D → Option D := orK (fun a b => (eqSc a b).map fun c => .bl (!c)) fun a b => (eqPy a b).map fun c => .bl (!c)
theorem od_eq (hu : X.A.units + 64 < cLine) : OpD X (compareOp .Eq) eqD := od_eqSc.or (od_eqPy hu)
theorem od_ne (hu : X.A.units + 64 < cLine) : OpD X (compareOp .NotEq) neD := od_neSc.or (od_nePy hu)

/-! a[i] -/
def ixL : D → D → Option D
  | .lst _ xs, .int i => match atI xs i with
    | some d => if solid d then some d else none
    | none => none
  | .tup xs, .int i => match atI xs i with
    | some d => if solid d then some d else none
    | none => none
  | .str z, .int i => if z.length ≤ sizeLine then (atI z.cps.toList i).map fun c => .str ⟨#[c]⟩ else none
  | _, _ => none
theorem xd_ixL : IxD X ixL := ⟨_, ix_seq, opS2 fun F H fp x y a b d f1 f2 Q w ra m1 rb m2 e q => by
  cases a <;> cases b <;> try (simp [ixL] at e; done)
  case str.int z i =>
    rw [ra.str_inv, rb.int_inv]
    simp only [ixL] at e
    split at e
    · rename_i hz
      obtain ⟨c, h1, rfl⟩ := Option.map_eq_some_iff.mp e
      exact .inr (.inr ⟨z, i, c, rfl, rfl, hz, h1, gives w q (.str _)⟩)
    · cases e
  case tup.int xs i =>
    simp only [ixL] at e
    split at e
    · rename_i d' h1
      split at e
      · rename_i hs
        cases e
        rw [rb.int_inv]
        cases ra with
        | tup hsq rs =>
          obtain ⟨v, h2, r⟩ := rs.atI0 hs h1
          exact .inr (.inl ⟨_, _, i, v, rfl, rfl, hsq, h2, q v F H [] (Ext.refl w.nil) w.nil r⟩)
      · cases e
    · cases e
  case lst.int u xs i =>
    simp only [ixL] at e
    split at e
    · rename_i d' h1
      split at e
      · rename_i hs
        cases e
        rw [rb.int_inv]
        cases ra with
        | lstO hsq rs =>
          obtain ⟨v, h2, r⟩ := rs.atI0 hs h1
          exact .inl ⟨_, _, i, v, rfl, rfl, SqL.of hsq, h2, q v F H [] (Ext.refl w.nil) w.nil r⟩
        | lstF hsq rs =>
          obtain ⟨v, h2, r⟩ := rs.atI0 hs h1
          exact .inl ⟨_, _, i, v, rfl, rfl, hsq.sq, h2, q v F H [] (Ext.refl w.nil) w.nil r⟩
      · cases e
    · cases e⟩

/-! built-ins of one value -/
def callK (k : D → Option D) : List D → Option D := lift1 k
theorem callS1 {G : Gam} {r : List V → Hp → VK → Prop} {k : D → Option D} (h : ∀ (F : Addr → Prop) (H : Hp) (fp : List Addr) (x : V) (a d : D) (f1 : List Addr) (Q : VK), Wd F H fp → R G F H x a f1 → (∀ q ∈ f1, q ∈ fp) → k a = some d →
    (∀ v F' H' fv, Ext F H [] F' H' fv → Wd F' H' fv → R G F' H' v d fv → Q v H') → r [x] H Q) : OpS G r (lift1 k) := by
  intro F H fp vs ds d Q w rd e q
  cases rd with
  | nil => cases e
  | cons ra m1 t =>
    cases t with
    | nil => exact h F H fp _ _ d _ Q w ra m1 e q
    | cons _ _ _ => cases e
theorem callS2 {G : Gam} {r : List V → Hp → VK → Prop} {k : D → D → Option D} (h : ∀ (F : Addr → Prop) (H : Hp) (fp : List Addr) (x y : V) (a b d : D) (f1 f2 : List Addr) (Q : VK), Wd F H fp → R G F H x a f1 → (∀ q ∈ f1, q ∈ fp) → R G F H y b f2 → (∀ q ∈ f2, q ∈ fp) → k a b = some d →
    (∀ v F' H' fv, Ext F H [] F' H' fv → Wd F' H' fv → R G F' H' v d fv → Q v H') → r [x, y] H Q) : OpS G r (lift2 k) := by
  intro F H fp vs ds d Q w rd e q
  cases rd with
  | nil => cases e
  | cons ra m1 t =>
    cases t with
    | nil => cases e
    | cons rb m2 t2 =>
      cases t2 with
      | nil => exact h F H fp _ _ _ _ d _ _ Q w ra m1 rb m2 e q
      | cons _ _ _ => cases e
def lenL : D → Option D
  | .lst _ xs => some (.int xs.length)
  | .tup xs => some (.int xs.length)
  | _ => none
def lenS : D → Option D
  | .str z => if z.length ≤ sizeLine then some (.int z.length) else none
  | _ => none
theorem cd_lenL : CallD X (.builtin "len") (lift1 lenL) := ⟨_, call_len_seq, callS1 fun F H fp x a d f1 Q w ra m1 e q => by
  cases a <;> try (simp [lenL] at e; done)
  case lst u xs =>
    cases e
    cases ra with
    | lstO h rs => exact ⟨_, _, rfl, .inl (SqL.of h), by rw [rs.length]; exact gives w q (.int _)⟩
    | lstF h rs => exact ⟨_, _, rfl, .inl h.sq, by rw [rs.length]; exact gives w q (.int _)⟩
  case tup xs =>
    cases e
    cases ra with
    | tup h rs => exact ⟨_, _, rfl, .inr h, by rw [rs.length]; exact gives w q (.int _)⟩⟩
theorem cd_lenS : CallD X (.builtin "len") (lift1 lenS) := ⟨_, call_len_str, callS1 fun F H fp x a d f1 Q w ra m1 e q => by
  cases a <;> try (simp [lenS] at e; done)
  rename_i z
  simp only [lenS] at e
  split at e
  · rename_i hz
    cases e
    rw [ra.str_inv]
    exact ⟨z, rfl, hz, gives w q (.int _)⟩
  · cases e⟩
def absK : D → Option D
  | .int i => some (.int (if i < 0 then -i else i))
  | _ => none
theorem cd_abs : CallD X (.builtin "abs") (lift1 absK) := ⟨_, call_abs, callS1 fun F H fp x a d f1 Q w ra m1 e q => by
  cases a <;> try (simp [absK] at e; done)
  rename_i i
  cases e
  rw [ra.int_inv]
  exact ⟨i, rfl, gives w q (.int _)⟩⟩
def intKd : D → Option D
  | .int i => some (.int i)
  | .bl b => some (.int (if b then 1 else 0))
  | _ => none
theorem cd_int : CallD X (.type "int") (lift1 intKd) := ⟨_, call_int1, callS1 fun F H fp x a d f1 Q w ra m1 e q => by
  cases a <;> try (simp [intKd] at e; done)
  case int i =>
    cases e
    rw [ra.int_inv]
    exact .inl ⟨i, rfl, gives w q (.int _)⟩
  case bl b =>
    cases e
    rw [ra.bl_inv]
    exact .inr ⟨b, rfl, gives w q (.int _)⟩⟩
theorem cd_max (hc : X.calm = true) : CallD X (.builtin "max") (lift2 (intK yes2 fun i j => .int (if j > i then j else i))) := ⟨_, call_max2 hc, callS2 fun F H fp x y a b d f1 f2 Q w ra m1 rb m2 e q => by
  cases a <;> cases b <;> try (simp [intK] at e; done)
  rename_i i j
  cases e
  rw [ra.int_inv, rb.int_inv]
  exact ⟨i, j, rfl, gives w q (.int _)⟩⟩
theorem cd_min (hc : X.calm = true) : CallD X (.builtin "min") (lift2 (intK yes2 fun i j => .int (if j < i then j else i))) := ⟨_, call_min2 hc, callS2 fun F H fp x y a b d f1 f2 Q w ra m1 rb m2 e q => by
  cases a <;> cases b <;> try (simp [intK] at e; done)
  rename_i i j
  cases e
  rw [ra.int_inv, rb.int_inv]
  exact ⟨i, j, rfl, gives w q (.int _)⟩⟩
/-- list(x): a new one -/
def listK : D → Option D
  | .lst _ xs => if solids xs then some (.lst true xs) else none
  | .tup xs => if solids xs then some (.lst true xs) else none
  | _ => none
theorem cd_list : CallD X (.type "list") (lift1 listK) := ⟨_, call_list_of, callS1 fun F H fp x a d f1 Q w ra m1 e q => by
  cases a <;> try (simp [listK] at e; done)
  case lst u xs =>
    simp only [listK] at e
    split at e
    · rename_i hs
      cases e
      obtain ⟨p, vs, rfl, h1, r1⟩ := ra.lst_inv hs
      exact ⟨p, vs, rfl, .inl h1, q_lst w r1 q⟩
    · cases e
  case tup xs =>
    simp only [listK] at e
    split at e
    · rename_i hs
      cases e
      obtain ⟨p, vs, rfl, h1, r1⟩ := ra.tup_inv hs
      exact ⟨p, vs, rfl, .inr h1, q_lst w r1 q⟩
    · cases e⟩
def tupK : D → Option D
  | .lst _ xs => if solids xs then some (.tup xs) else none
  | .tup xs => if solids xs then some (.tup xs) else none
  | _ => none
theorem cd_tup : CallD X (.type "tuple") (lift1 tupK) := ⟨_, call_tuple_of, callS1 fun F H fp x a d f1 Q w ra m1 e q => by
  cases a <;> try (simp [tupK] at e; done)
  case lst u xs =>
    simp only [tupK] at e
    split at e
    · rename_i hs
      cases e
      obtain ⟨p, vs, rfl, h1, r1⟩ := ra.lst_inv hs
      exact ⟨p, vs, rfl, .inl ⟨h1, q_tup w r1 q⟩⟩
    · cases e
  case tup xs =>
    simp only [tupK] at e
    split at e
    · rename_i hs
      cases e
      obtain ⟨p, vs, rfl, h1, r1⟩ := ra.tup_inv hs
      exact ⟨p, vs, rfl, .inr ⟨h1, q _ F H [] (Ext.refl w.nil) w.nil (.tup h1 r1)⟩⟩
    · cases e⟩
/-- all bools -/
def blsOf : List D → Option (List Bool)
  | [] => some []
  | .bl b :: l => (blsOf l).map (b :: ·)
  | _ :: _ => none
theorem Rs.bls {G : Gam} {F : Addr → Prop} {H : Hp} : ∀ {vs : List V} {ds : List D} {f : List Addr} {bs : List Bool}, Rs G F H vs ds f → blsOf ds = some bs → vs = bs.map V.bl
  | _, _, _, bs, .nil, e => by cases e; rfl
  | _, _, _, bs, .cons (d := d) r t, e => by
    cases d <;> try (simp [blsOf] at e; done)
    rename_i b
    simp only [blsOf] at e
    obtain ⟨l, e1, rfl⟩ := Option.map_eq_some_iff.mp e
    rw [r.bl_inv, t.bls e1]
    rfl
def anyK (g : List Bool → Bool) : D → Option D
  | .lst _ xs => (blsOf xs).map fun bs => .bl (g bs)
  | _ => none
theorem cd_any (hc : X.calm = true) : CallD X (.builtin "any") (lift1 (anyK fun bs => bs.any id)) := ⟨_, cr_any hc, callS1 fun F H fp x a d f1 Q w ra m1 e q => by
  cases a <;> try (simp [anyK] at e; done)
  rename_i u xs
  obtain ⟨bs, e1, rfl⟩ := Option.map_eq_some_iff.mp e
  cases ra with
  | lstO h rs => exact ⟨_, bs, rfl, by rw [← rs.bls e1]; exact SqL.of h, gives w q (.bl _)⟩
  | lstF h rs => exact ⟨_, bs, rfl, by rw [← rs.bls e1]; exact h.sq, gives w q (.bl _)⟩⟩
theorem cd_all (hc : X.calm = true) : CallD X (.builtin "all") (lift1 (anyK fun bs => bs.all id)) := ⟨_, cr_all hc, callS1 fun F H fp x a d f1 Q w ra m1 e q => by
  cases a <;> try (simp [anyK] at e; done)
  rename_i u xs
  obtain ⟨bs, e1, rfl⟩ := Option.map_eq_some_iff.mp e
  cases ra with
  | lstO h rs => exact ⟨_, bs, rfl, by rw [← rs.bls e1]; exact SqL.of h, gives w q (.bl _)⟩
  | lstF h rs => exact ⟨_, bs, rfl, by rw [← rs.bls e1]; exact h.sq, gives w q (.bl _)⟩⟩
end

/-! ### the rules by data -/
section
variable {X : Cx} {W : WX} {e a b : Expr} {es : List Expr} {pos : Pos} {oa ob : Opd} {os : List Opd}
theorem de_binD {op : Operator} {k : D → D → Option D} (h : OpD X (binaryOp op) k) (ha : DO X W a oa) (hb : DO X W b ob) : DE X W (.BinOp a op b pos) (pureOp (lift2 k) [oa, ob]) := by
  obtain ⟨r, h1, h2⟩ := h.ex
  exact de_bin h1 h2 ha hb
theorem de_cmpD {op : CmpOp} {k : D → D → Option D} (h : OpD X (compareOp op) k) (ha : DO X W a oa) (hb : DO X W b ob) (hm : behindInMarks op b = false) : DE X W (.Compare a [op] [b] pos) (pureOp (lift2 k) [oa, ob]) := by
  obtain ⟨r, h1, h2⟩ := h.ex
  exact de_cmp h1 h2 ha hb hm
theorem dt_cmpD {op : CmpOp} {k : D → D → Option D} (h : OpD X (compareOp op) k) (ha : DO X W a oa) (hb : DO X W b ob) (hm : behindInMarks op b = false) : DT X W (.Compare a [op] [b] pos) (tst (pureOp (lift2 k) [oa, ob])) := by
  obtain ⟨r, h1, h2⟩ := h.ex
  exact dt_cmp h1 h2 ha hb hm
theorem de_ixD {k : D → D → Option D} (h : IxD X k) (ha : DO X W a oa) (hb : DO X W b ob) (hs : PlainIx b) : DE X W (.Subscript a b pos) (pureOp (lift2 k) [oa, ob]) := by
  obtain ⟨r, h1, h2⟩ := h.ex
  exact de_ix h1 h2 ha hb hs
theorem de_callBD {id : String} {k : List D → Option D} {x : Str} {p : Pos} (h : CallD X (.builtin id) k) (hg : Gl X x) (hm : X.mg x = none) (hv : bootBuiltins x = some (.builtin id)) (ha : PA X (e :: es) (teL (gam X) W os))
    (hn : x ≠ "__name__" := by decide) (hdb : (x == ("__debug__" : Str)) = false := by decide) (hst : starEach (e :: es) X.env = (false, eval e X.env) :: starEach es X.env := by rfl) (hpl : (backTo pos (starEach es X.env)).any (·.1) = false := by rfl) :
    DE X W (.Call (.Name x p) (e :: es) [] pos) (pureOp k os) := by
  obtain ⟨r, h1, h2⟩ := h.ex
  exact de_callB h1 h2 hg hm hv ha hn hdb hst hpl
theorem de_callTD {T : String} {k : List D → Option D} {x : Str} {p : Pos} (h : CallD X (.type T) k) (hg : Gl X x) (hm : X.mg x = none) (hv : bootBuiltins x = some (.type T)) (ha : PA X (e :: es) (teL (gam X) W os))
    (hn : x ≠ "__name__" := by decide) (hdb : (x == ("__debug__" : Str)) = false := by decide) (hst : starEach (e :: es) X.env = (false, eval e X.env) :: starEach es X.env := by rfl) (hpl : (backTo pos (starEach es X.env)).any (·.1) = false := by rfl) :
    DE X W (.Call (.Name x p) (e :: es) [] pos) (pureOp k os) := by
  obtain ⟨r, h1, h2⟩ := h.ex
  exact ⟨(pe_callTy h1 hg hm hv ha hn hdb hst hpl).weak fun σ H Q q => pureOp_sound h2 q⟩
end
end DL

set_option Elab.async false
set_option linter.all false
set_option maxRecDepth 100000
set_option maxHeartbeats 4000000
/-! DL12: quiet expressions: what changes nothing that stands. -/
namespace DL
open PySem PySem.Spec PyProof.Rows L2

/-- a value on new objects alone -/
def tQF (G : Gam) (q : Env → Option D) : TE := fun σ H Q => ∃ F ρ fp, Wd F H fp ∧ EnvR G F H σ ρ fp ∧ ∃ d, q ρ = some d ∧ ∀ y F' H' fv, Ext F H [] F' H' fv → Wd F' H' fv → R G F' H' y d fv → Q y H'
/-- a value that may lie among what stands -/
def tQR (G : Gam) (q : Env → Option D) : TE := fun σ H Q => ∃ F ρ fp, Wd F H fp ∧ EnvR G F H σ ρ fp ∧ ∃ d, q ρ = some d ∧ ∀ y F' H' fv fy, Ext F H [] F' H' fv → Wd F' H' (fv ++ fp) → EnvR G F' H' σ ρ fp → R G F' H' y d fy → (∀ a ∈ fy, a ∈ fv ++ fp) → Q y H'
def tQL (G : Gam) (q : Env → Option (List D)) : TA := fun σ H Q => ∃ F ρ fp, Wd F H fp ∧ EnvR G F H σ ρ fp ∧ ∃ ds, q ρ = some ds ∧ ∀ ys F' H' fv, Ext F H [] F' H' fv → Wd F' H' (fv ++ fp) → EnvR G F' H' σ ρ fp → Rds G F' H' (fv ++ fp) ys ds → Q ys H'
structure QF (X : Cx) (e : Expr) (q : Env → Option D) : Prop where
  pe : PE X e (tQF (gam X) q)
structure QR (X : Cx) (e : Expr) (q : Env → Option D) : Prop where
  pe : PE X e (tQR (gam X) q)
structure QL (X : Cx) (es : List Expr) (q : Env → Option (List D)) : Prop where
  pa : PA X es (tQL (gam X) q)
section
variable {G : Gam} {W : WX} {F F1 F2 : Addr → Prop} {H H1 H2 : Hp} {fp fp1 fp2 g g1 g2 : List Addr} {σ : L2.St} {ρ : Env} {Q : VK}
/-- beside what is new all is as it was -/
theorem fresh_more {fv fw : List Addr} (E : Ext F1 H1 [] F2 H2 fw) (W2 : Wd F2 H2 fw) (W1 : Wd F1 H1 (fv ++ fp)) : Wd F2 H2 ((fw ++ fv) ++ fp) := by
  have W1' : Wd F1 H1 ((fv ++ fp) ++ []) := by rw [List.append_nil]; exact W1
  have WB := W1'.beside E W2
  refine WB.perm ?_
  refine List.Perm.trans List.perm_append_comm ?_
  rw [List.append_assoc]
theorem fresh_trans {fv fw : List Addr} (E0 : Ext F H [] F1 H1 fv) (W0 : Wd F1 H1 fv) (E : Ext F1 H1 [] F2 H2 fw) : Ext F H [] F2 H2 (fw ++ fv) := by
  have W0' : Wd F1 H1 (fv ++ []) := by rw [List.append_nil]; exact W0
  have B := E.beside W0'
  rw [List.append_nil] at B
  exact (E0.trans B).perm List.perm_append_comm
theorem R.stays {y : V} {d : D} {fy fv fw : List Addr} (r : R G F1 H1 y d fy) (m : ∀ a ∈ fy, a ∈ fv) (W1 : Wd F1 H1 fv) (E : Ext F1 H1 [] F2 H2 fw) : R G F2 H2 y d fy := r.keep E W1.nil fun a h => ⟨fun z => (nomatch z), W1.ff a (m a h)⟩
theorem Rds.stays {ys : List V} {ds : List D} {fv fw : List Addr} (W1 : Wd F1 H1 fv) (E : Ext F1 H1 [] F2 H2 fw) (r : Rds G F1 H1 fv ys ds) : Rds G F2 H2 fv ys ds := by
  induction r with
  | nil => exact .nil
  | cons r m t ih => exact .cons (r.stays m W1 E) m ih
theorem Rds.wide {ys : List V} {ds : List D} {fv fw : List Addr} (m : ∀ a ∈ fv, a ∈ fw) (r : Rds G F H fv ys ds) : Rds G F H fw ys ds := by
  induction r with
  | nil => exact .nil
  | cons r m2 t ih => exact .cons r (fun a h => m a (m2 a h)) ih
theorem tQF_R {q : Env → Option D} (h : tQR G q σ H Q) : tQF G q σ H Q := by
  obtain ⟨F, ρ, fp, w, e, d, hq, k⟩ := h
  refine ⟨F, ρ, fp, w, e, d, hq, fun y F' H' fv E W' r => ?_⟩
  obtain ⟨B, WB, e'⟩ := fresh_beside E W' w e
  exact k y F' H' fv fv E WB e' r fun a m => List.mem_append_left _ m
/-- q's value, where nothing of it is owned -/
def sol (q : Env → Option D) : Env → Option D := fun ρ => match q ρ with
  | some d => if solid d then some d else none
  | none => none
theorem tQR_F {q : Env → Option D} (h : tQF G (sol q) σ H Q) : tQR G q σ H Q := by
  obtain ⟨F, ρ, fp, w, e, d, hq, k⟩ := h
  unfold sol at hq
  split at hq
  · rename_i d' hd
    split at hq
    · rename_i hs
      cases hq
      refine ⟨F, ρ, fp, w, e, _, hd, fun y F' H' fv fy E W' e' r m => ?_⟩
      have z := r.solid0 hs
      subst z
      exact k y F' H' [] (E.less fun _ m => nomatch m) W'.nil r
    · cases hq
  · cases hq
/-- the value's meaning as a plain one -/
def qE (q : Env → Option D) : Env → Res D := fun ρ => match q ρ with
  | some d => .ok d ρ
  | none => .stuck
theorem tQF_E {q : Env → Option D} (h : WpE G W (qE q) σ H Q) : tQF G q σ H Q := by
  obtain ⟨F, ρ, fp, w, e, p⟩ := h
  unfold qE at p
  split at p
  · rename_i d hd
    refine ⟨F, ρ, fp, w, e, d, hd, fun y F' H' fv E W' r => ?_⟩
    obtain ⟨B, WB, e'⟩ := fresh_beside E W' w e
    exact p y F' H' fv fp B WB e' r
  · exact p.elim
/-! lists of values -/
def qNil : Env → Option (List D) := fun _ => some []
def qCons (q : Env → Option D) (qs : Env → Option (List D)) : Env → Option (List D) := fun ρ => match q ρ, qs ρ with
  | some d, some ds => some (d :: ds)
  | _, _ => none
theorem tQL_nil {Q : List V → Hp → Prop} (h : tQL G qNil σ H Q) : tNil σ H Q := by
  obtain ⟨F, ρ, fp, w, e, ds, hq, k⟩ := h
  cases hq
  exact k [] F H [] (Ext.refl w.nil) w e .nil
theorem tQL_cons {q : Env → Option D} {qs : Env → Option (List D)} {Q : List V → Hp → Prop} (h : tQL G (qCons q qs) σ H Q) : tCons (tQR G q) (tQL G qs) σ H Q := by
  obtain ⟨F, ρ, fp, w, e, ds, hq, k⟩ := h
  unfold qCons at hq
  split at hq
  · rename_i d ds' h1 h2
    cases hq
    refine ⟨F, ρ, fp, w, e, d, h1, fun y F1 H1 fv fy E W1 e1 r m => ?_⟩
    refine ⟨F1, ρ, fp, W1.right, e1, ds', h2, fun ys F2 H2 fw E2 W2 e2 rs => ?_⟩
    have W3 := fresh_more E2 W2.left W1
    refine k (y :: ys) F2 H2 (fw ++ fv) (fresh_trans E W1.left E2) W3 e2 (.cons (r.stays m W1 E2) (fun a h => ?_) (rs.wide fun a h => ?_))
    · rcases List.mem_append.mp (m a h) with z | z
      · exact List.mem_append_left _ (List.mem_append_right _ z)
      · exact List.mem_append_right _ z
    · rcases List.mem_append.mp h with z | z
      · exact List.mem_append_left _ (List.mem_append_left _ z)
      · exact List.mem_append_right _ z
  · cases hq
/-- an operation on values -/
def qOp (op : List D → Option D) (qs : Env → Option (List D)) : Env → Option D := fun ρ => match qs ρ with
  | some ds => op ds
  | none => none
theorem tQF_op {r : List V → Hp → VK → Prop} {op : List D → Option D} (o : OpS G r op) {qs : Env → Option (List D)} (h : tQF G (qOp op qs) σ H Q) : tQL G qs σ H fun vs H' => r vs H' Q := by
  obtain ⟨F, ρ, fp, w, e, d, hq, k⟩ := h
  unfold qOp at hq
  split at hq
  · rename_i ds hd
    refine ⟨F, ρ, fp, w, e, ds, hd, fun ys F1 H1 fv E1 W1 e1 rs => ?_⟩
    refine o F1 H1 (fv ++ fp) ys ds d Q W1 rs hq fun v F2 H2 fw E2 W2 r2 => ?_
    exact k v F2 H2 fw ((fresh_trans E1 W1.left E2).less fun a m => List.mem_append_left _ m) W2 r2
  · cases hq
/-- two of them -/
def q2 (a b : Env → Option D) : Env → Option (List D) := qCons a (qCons b qNil)
def q1 (a : Env → Option D) : Env → Option (List D) := qCons a qNil
theorem tQ2 {qa qb : Env → Option D} {r : V → V → Hp → VK → Prop} (h : tQL G (q2 qa qb) σ H fun vs H' => r2 r vs H' Q) : tOp r (tQR G qa) (tQR G qb) σ H Q := by
  obtain ⟨F, ρ, fp, w, e, ds, hq, k⟩ := h
  unfold q2 qCons at hq
  split at hq
  · rename_i d ds' h1 h2
    cases hq
    refine ⟨F, ρ, fp, w, e, d, h1, fun y F1 H1 fv fy E W1 e1 r' m => ?_⟩
    unfold qNil at h2
    split at h2
    · rename_i d2 ds2 h3 h4
      cases h4
      cases h2
      refine ⟨F1, ρ, fp, W1.right, e1, d2, h3, fun z F2 H2 fw fz E2 W2 e2 r2' m2 => ?_⟩
      have W3 := fresh_more E2 W2.left W1
      refine k [y, z] F2 H2 (fw ++ fv) (fresh_trans E W1.left E2) W3 e2 (.cons (r'.stays m W1 E2) (fun a h => ?_) (.cons r2' (fun a h => ?_) .nil))
      · rcases List.mem_append.mp (m a h) with z | z
        · exact List.mem_append_left _ (List.mem_append_right _ z)
        · exact List.mem_append_right _ z
      · rcases List.mem_append.mp (m2 a h) with z | z
        · exact List.mem_append_left _ (List.mem_append_left _ z)
        · exact List.mem_append_right _ z
    · cases h2
  · cases hq
theorem tQ1 {qa : Env → Option D} {r : V → Hp → VK → Prop} (h : tQL G (q1 qa) σ H fun vs H' => r1 r vs H' Q) : tUn r (tQR G qa) σ H Q := by
  obtain ⟨F, ρ, fp, w, e, ds, hq, k⟩ := h
  unfold q1 qCons at hq
  split at hq
  · rename_i d ds' h1 h2
    cases h2
    cases hq
    exact ⟨F, ρ, fp, w, e, d, h1, fun y F1 H1 fv fy E W1 e1 r' m => k [y] F1 H1 fv E W1 e1 (.cons r' m .nil)⟩
  · cases hq
/-- an operation that tells a part of what stands -/
def RdS (G : Gam) (r : V → V → Hp → VK → Prop) (op : D → D → Option D) : Prop :=
  ∀ (F : Addr → Prop) (H : Hp) (x y : V) (a b d : D) (f1 f2 : List Addr) (Q : VK), R G F H x a f1 → R G F H y b f2 → op a b = some d → (∀ v fv, R G F H v d fv → (∀ q ∈ fv, q ∈ f1) → Q v H) → r x y H Q
theorem tQR_rd {r : V → V → Hp → VK → Prop} {op : D → D → Option D} (o : RdS G r op) {qa qb : Env → Option D} (h : tQR G (qOp (lift2 op) (q2 qa qb)) σ H Q) : tOp r (tQR G qa) (tQR G qb) σ H Q := by
  refine tQ2 ?_
  obtain ⟨F, ρ, fp, w, e, d, hq, k⟩ := h
  unfold qOp at hq
  split at hq
  · rename_i ds hd
    refine ⟨F, ρ, fp, w, e, ds, hd, fun ys F1 H1 fv E1 W1 e1 rs => ?_⟩
    cases rs with
    | nil => cases hq
    | cons ra m1 t =>
      cases t with
      | nil => cases hq
      | cons rb m2 t2 =>
        cases t2 with
        | cons _ _ _ => cases hq
        | nil => exact o F1 H1 _ _ _ _ d _ _ Q ra rb hq fun v fy rv m => k v F1 H1 fv fy E1 W1 e1 rv fun a h => m1 a (m a h)
  · cases hq
end
section
variable {X : Cx} {W : WX} {e a b : Expr} {es : List Expr} {pos : Pos} {q qa qb : Env → Option D} {qs : Env → Option (List D)}
theorem QF.toR (h : QF X e q) : QR X e q := ⟨h.pe.weak fun σ H Q z => tQF_R z⟩
theorem QR.toF (h : QR X e q) : QF X e (sol q) := ⟨h.pe.weak fun σ H Q z => tQR_F z⟩
theorem QF.de (h : QF X e q) : DE X W e (qE q) := ⟨h.pe.weak fun σ H Q z => tQF_E z⟩
theorem QR.de (h : QR X e q) : DE X W e (qE (sol q)) := h.toF.de
/-- a name -/
def qN (i : Nat) : Env → Option D := fun ρ => match ρ[i]? with
  | some (some d) => some d
  | _ => none
theorem qr_nm {i : Nat} (h : PE X e (tVar i)) : QR X e (qN i) := ⟨h.weak fun σ H Q z => by
  obtain ⟨F, ρ, fp, w, e, d, hq, k⟩ := z
  unfold qN at hq
  split at hq
  · rename_i d' hd
    cases hq
    obtain ⟨v, f1, f2, e1, r, pm, r2⟩ := e.get hd
    exact ⟨v, e1, k v F H [] f1 (Ext.refl w.nil) w e r fun a m => by simpa using pm.mem_iff.mpr (List.mem_append_left _ m)⟩
  · cases hq⟩
def qK (d : D) : Env → Option D := fun _ => some d
theorem qf_k {v : V} {d : D} (h : PE X e (tC v)) (s : Sc v d) : QF X e (qK d) := ⟨h.weak fun σ H Q z => by
  obtain ⟨F, ρ, fp, w, e, d', hq, k⟩ := z
  cases hq
  exact k v F H [] (Ext.refl w.nil) w.nil s.R⟩
theorem qf_int {i : Int} {j : Nat} : QF X (.Constant (.int i) j pos) (qK (.int i)) := qf_k pe_int (.int i)
theorem qf_bl {i : Bool} {j : Nat} : QF X (.Constant (.bool i) j pos) (qK (.bl i)) := qf_k pe_bl (.bl i)
theorem qf_str {i : Str} {j : Nat} : QF X (.Constant (.str i) j pos) (qK (.str i)) := qf_k pe_str (.str i)
theorem qf_non {j : Nat} : QF X (.Constant .none j pos) (qK .non) := qf_k pe_non .non
theorem ql_nil : QL X [] qNil := ⟨⟨fun pos pins s σ H Q I h => pa_nil.run pos pins s σ H Q I (tQL_nil h)⟩⟩
theorem ql_cons (he : QR X e q) (hr : QL X es qs) (hs : starEach (e :: es) X.env = (false, eval e X.env) :: starEach es X.env := by rfl) : QL X (e :: es) (qCons q qs) :=
  ⟨⟨fun pos pins s σ H Q I h => (pa_cons he.pe hr.pa hs).run pos pins s σ H Q I (tQL_cons h)⟩⟩
/-! operators -/
theorem qf_bin {op : Operator} {k : D → D → Option D} (h : OpD X (binaryOp op) k) (ha : QR X a qa) (hb : QR X b qb) : QF X (.BinOp a op b pos) (qOp (lift2 k) (q2 qa qb)) := by
  obtain ⟨r, h1, h2⟩ := h.ex
  exact ⟨(pe_op h1 ha.pe hb.pe).weak fun σ H Q z => tQ2 (tQF_op h2 z)⟩
theorem qf_un {op : UnaryOp} {k : D → Option D} (h : UnD X (unaryOp op) k) (ha : QR X a qa) : QF X (.UnaryOp op a pos) (qOp (lift1 k) (q1 qa)) := by
  obtain ⟨r, h1, h2⟩ := h.ex
  exact ⟨(pe_un h1 ha.pe).weak fun σ H Q z => tQ1 (tQF_op h2 z)⟩
theorem qf_cmp {op : CmpOp} {k : D → D → Option D} (h : OpD X (compareOp op) k) (ha : QR X a qa) (hb : QR X b qb) (hm : behindInMarks op b = false) : QF X (.Compare a [op] [b] pos) (qOp (lift2 k) (q2 qa qb)) := by
  obtain ⟨r, h1, h2⟩ := h.ex
  exact ⟨(pe_cmpR h1 ha.pe hb.pe hm).weak fun σ H Q z => tQ2 (tQF_op h2 z)⟩
theorem qf_callB {id : String} {k : List D → Option D} {x : Str} {p : Pos} (h : CallD X (.builtin id) k) (hg : Gl X x) (hm : X.mg x = none) (hv : bootBuiltins x = some (.builtin id)) (ha : QL X (e :: es) qs)
    (hn : x ≠ "__name__" := by decide) (hdb : (x == ("__debug__" : Str)) = false := by decide) (hst : starEach (e :: es) X.env = (false, eval e X.env) :: starEach es X.env := by rfl) (hpl : (backTo pos (starEach es X.env)).any (·.1) = false := by rfl) :
    QF X (.Call (.Name x p) (e :: es) [] pos) (qOp k qs) := by
  obtain ⟨r, h1, h2⟩ := h.ex
  exact ⟨(pe_callB h1 hg hm hv ha.pa hn hdb hst hpl).weak fun σ H Q z => tQF_op h2 z⟩
theorem qf_callT {T : String} {k : List D → Option D} {x : Str} {p : Pos} (h : CallD X (.type T) k) (hg : Gl X x) (hm : X.mg x = none) (hv : bootBuiltins x = some (.type T)) (ha : QL X (e :: es) qs)
    (hn : x ≠ "__name__" := by decide) (hdb : (x == ("__debug__" : Str)) = false := by decide) (hst : starEach (e :: es) X.env = (false, eval e X.env) :: starEach es X.env := by rfl) (hpl : (backTo pos (starEach es X.env)).any (·.1) = false := by rfl) :
    QF X (.Call (.Name x p) (e :: es) [] pos) (qOp k qs) := by
  obtain ⟨r, h1, h2⟩ := h.ex
  exact ⟨(pe_callTy h1 hg hm hv ha.pa hn hdb hst hpl).weak fun σ H Q z => tQF_op h2 z⟩
/-! displays of shared values -/
def dTup (ds : List D) : Option D := if solids ds && decide (ds.length ≤ sizeLine) then some (.tup ds) else none
def dLst (ds : List D) : Option D := if solids ds && decide (ds.length ≤ sizeLine) then some (.lst true ds) else none
theorem Rds.rs {G : Gam} {F : Addr → Prop} {H : Hp} {fp : List Addr} : ∀ {ys : List V} {ds : List D}, Rds G F H fp ys ds → solids ds = true → Rs G F H ys ds []
  | _, _, .nil, _ => .nil
  | _, _, .cons r m t, s => by
    simp only [solids, Bool.and_eq_true] at s
    have z := r.solid0 s.1
    subst z
    exact .cons (f1 := []) (f2 := []) r (t.rs s.2)
theorem Rds.len {G : Gam} {F : Addr → Prop} {H : Hp} {fp : List Addr} {ys : List V} {ds : List D} (h : Rds G F H fp ys ds) : ys.length = ds.length := by
  induction h with
  | nil => rfl
  | cons _ _ _ ih => simp [ih]
theorem os_tup {G : Gam} : OpS G rTup dTup := by
  intro F H fp vs ds d Q w rd e q
  unfold dTup at e
  split at e
  · rename_i hc
    simp only [Bool.and_eq_true, decide_eq_true_eq] at hc
    cases e
    exact ⟨by rw [rd.len]; exact hc.2, q_tup w (rd.rs hc.1) q⟩
  · cases e
theorem os_lst {G : Gam} : OpS G rLst dLst := by
  intro F H fp vs ds d Q w rd e q
  unfold dLst at e
  split at e
  · rename_i hc
    simp only [Bool.and_eq_true, decide_eq_true_eq] at hc
    cases e
    exact ⟨by rw [rd.len]; exact hc.2, q_lst w (rd.rs hc.1) q⟩
  · cases e
theorem qf_tup {x1} (h : QL X es qs) : QF X (.Tuple es x1 pos) (qOp dTup qs) := ⟨(pe_tup h.pa).weak fun σ H Q z => tQF_op os_tup z⟩
theorem qf_lst (h : QL X es qs) : QF X (.List es pos) (qOp dLst qs) := ⟨(pe_lst h.pa).weak fun σ H Q z => tQF_op os_lst z⟩
/-! indexing -/
/-- an item, owned or not -/
def ixR : D → D → Option D
  | .lst _ xs, .int i => atI xs i
  | .tup xs, .int i => atI xs i
  | .str z, .int i => if z.length ≤ sizeLine then (atI z.cps.toList i).map fun c => .str ⟨#[c]⟩ else none
  | _, _ => none
theorem Rs.atR {G : Gam} {F : Addr → Prop} {H : Hp} {vs : List V} {ds : List D} {i : Int} {d : D} {f : List Addr} (h : Rs G F H vs ds f) (e : atI ds i = some d) : ∃ v f1, atI vs i = some v ∧ R G F H v d f1 ∧ ∀ a ∈ f1, a ∈ f := by
  obtain ⟨j, h1, h2⟩ := atI_len (xs := vs) h.length e
  obtain ⟨v, f1, h3, h4, h5⟩ := h.getA h1
  exact ⟨v, f1, h2 v h3, h4, h5⟩
theorem rd_ix {G : Gam} : RdS G (rIx G.K) ixR := by
  intro F H x y a b d f1 f2 Q ra rb e k
  cases a <;> cases b <;> try (simp [ixR] at e; done)
  case str.int z i =>
    rw [ra.str_inv, rb.int_inv]
    simp only [ixR] at e
    split at e
    · rename_i hz
      obtain ⟨c, h1, rfl⟩ := Option.map_eq_some_iff.mp e
      exact .inr (.inr ⟨z, i, c, rfl, rfl, hz, h1, k _ [] (.str _) fun _ m => nomatch m⟩)
    · cases e
  case tup.int xs i =>
    rw [rb.int_inv]
    cases ra with
    | tup hsq rs =>
      obtain ⟨v, g1, h2, r, m⟩ := rs.atR e
      exact .inr (.inl ⟨_, _, i, v, rfl, rfl, hsq, h2, k v g1 r m⟩)
  case lst.int u xs i =>
    rw [rb.int_inv]
    cases ra with
    | lstO hsq rs =>
      obtain ⟨v, g1, h2, r, m⟩ := rs.atR e
      exact .inl ⟨_, _, i, v, rfl, rfl, SqL.of hsq, h2, k v g1 r fun q h => List.mem_cons_of_mem _ (m q h)⟩
    | lstF hsq rs =>
      obtain ⟨v, g1, h2, r, m⟩ := rs.atR e
      exact .inl ⟨_, _, i, v, rfl, rfl, hsq.sq, h2, k v g1 r m⟩
theorem qr_ix (ha : QR X a qa) (hb : QR X b qb) (hs : PlainIx b) : QR X (.Subscript a b pos) (qOp (lift2 ixR) (q2 qa qb)) := ⟨(pe_ix ix_seq ha.pe hb.pe hs).weak fun σ H Q z => tQR_rd rd_ix z⟩
end
end DL

set_option Elab.async false
set_option linter.all false
set_option maxRecDepth 100000
set_option maxHeartbeats 4000000
/-! DL13: reading dicts. -/
namespace DL
open PySem PySem.Spec PyProof.Rows L2

/-- a plain key -/
def dkey : D → Option Key
  | .int i => some (.inl i)
  | .str x => some (.inr x)
  | _ => none
def valD (kvs : List (DKey × D)) (k : DKey) : Option D := (kvs.find? fun p => decide (p.1 = k)).map (·.2)
def putD (kvs : List (DKey × D)) (k : DKey) (d : D) : List (DKey × D) :=
  if (kvs.any fun p => decide (p.1 = k)) = true then kvs.map (fun p => if p.1 = k then (p.1, d) else p) else kvs ++ [(k, d)]
section
variable {G : Gam} {F : Addr → Prop} {H : Hp}
theorem dkey_R {y : V} {b : D} {f : List Addr} {k : Key} (r : R G F H y b f) (e : dkey b = some k) : y = kV k := by
  cases b <;> try (simp [dkey] at e; done)
  case int i => cases e; exact r.int_inv
  case str i => cases e; exact r.str_inv
theorem Re.val {k : Key} : ∀ {es : List (Key × V)} {kvs : List (DKey × D)} {fp : List Addr}, Re G F H (es.map tagK) kvs fp → match valD kvs (.inl k) with
    | some d => ∃ v f, valV es k = some v ∧ R G F H v d f ∧ ∀ a ∈ f, a ∈ fp
    | none => valV es k = none
  | [], _, _, h => by cases h; rfl
  | (k', v) :: es, _, _, h => by
    cases h with
    | @cons _ _ d _ ds f1 f2 r t =>
      have ih := Re.val (k := k) t
      by_cases e : k' = k
      · subst e
        have e1 : valD ((Sum.inl k', d) :: ds) (.inl k') = some d := by simp [valD]
        rw [e1]
        exact ⟨v, f1, by simp [valV], r, fun a m => List.mem_append_left _ m⟩
      · have e1 : valD ((Sum.inl k', d) :: ds) (.inl k) = valD ds (.inl k) := by
          unfold valD
          rw [List.find?_cons_of_neg (by simpa using e)]
        have e2 : valV ((k', v) :: es) k = valV es k := valV_neg e
        rw [e1, e2]
        revert ih
        cases valD ds (.inl k) with
        | none => exact fun z => z
        | some d' => exact fun ⟨v', f', h1, h2, h3⟩ => ⟨v', f', h1, h2, fun a m => List.mem_append_right _ (h3 a m)⟩
/-- a dict of plain keys: all keys are plain -/
def plainKeys (kvs : List (DKey × D)) : Bool := kvs.all fun p => p.1.isLeft
/-- a dict's table -/
theorem R.dic_inv {x : V} {u : Bool} {kvs : List (DKey × D)} {f : List Addr} (r : R G F H x (.dic u kvs) f) (p : plainKeys kvs = true) : ∃ a es fp, x = .ref a ∧ Rd H a (.dK es) ∧ Re G F H (es.map tagK) kvs fp ∧ ∀ q ∈ fp, q ∈ f := by
  have no : ∀ (es : List (List Key × V)) (fp : List Addr), Re G F H (es.map tagT) kvs fp → kvs ≠ [] → False := by
    intro es fp t ne
    have e := t.keys
    cases kvs with
    | nil => exact ne rfl
    | cons q kvs =>
      cases es with
      | nil => simp at e
      | cons z es =>
        simp only [List.map_cons, List.cons.injEq, tagT] at e
        simp only [plainKeys, List.all_cons, Bool.and_eq_true] at p
        rw [e.1] at p
        simp at p
  cases r with
  | dicO h t n => exact ⟨_, _, _, rfl, .inl h, t, fun q m => List.mem_cons_of_mem _ m⟩
  | dicF f h t n => exact ⟨_, _, _, rfl, h, t, fun q m => m⟩
  | ditO h t n z => exact (no _ _ t z).elim
  | ditF f h t n z => exact (no _ _ t z).elim
end
/-! d[k] -/
def rDGet : R2 := fun x y H Q => ∃ a v, x = .ref a ∧ DGet H a y (some v) ∧ Q v H
theorem ix_dict {X : Cx} (hu : X.A.units + 1 < cLine) : IxR X rDGet := by
  intro value slice pins s σ H x y v u Q I rx ry h hs
  obtain ⟨a, z, rfl, g, q⟩ := h
  cases rx
  exact tail_any (dict_typeIs I g) PySem.F.slot_dict_getitem.lookup (d_getItem hu I g ry fun w' s' I' r' => ⟨z, H, I', r', q⟩) hs
def getK : D → D → Option D
  | .dic _ kvs, b => match dkey b with
    | some k => if plainKeys kvs then valD kvs (.inl k) else none
    | none => none
  | _, _ => none
theorem rd_get {G : Gam} : RdS G rDGet getK := by
  intro F H x y a b d f1 f2 Q ra rb e k
  cases a <;> try (simp [getK] at e; done)
  rename_i u kvs
  simp only [getK] at e
  split at e
  · rename_i kk hk
    split at e
    · rename_i hp
      obtain ⟨a, es, fp, rfl, hd, t, m⟩ := ra.dic_inv hp
      have vv := t.val (k := kk)
      rw [e] at vv
      obtain ⟨v, f, h1, h2, h3⟩ := vv
      rw [dkey_R rb hk]
      exact ⟨a, v, rfl, .inl ⟨es, kk, hd, rfl, h1.symm⟩, k v f h2 fun q z => m q (h3 q z)⟩
    · cases e
  · cases e
/-- any subscript -/
def subK : D → D → Option D := orK ixR getK
def rSub (K : PySem.W.Frag) : R2 := fun x y H Q => rIx K x y H Q ∨ rDGet x y H Q
theorem rd_sub {G : Gam} : RdS G (rSub G.K) subK := by
  intro F H x y a b d f1 f2 Q ra rb e k
  unfold subK orK at e
  split at e
  · rename_i d' hd
    cases e
    exact .inl (rd_ix F H x y a b _ f1 f2 Q ra rb hd k)
  · exact .inr (rd_get F H x y a b d f1 f2 Q ra rb e k)
section
variable {X : Cx} {W : WX} {e a b : Expr} {es : List Expr} {pos : Pos} {q qa qb : Env → Option D} {qs : Env → Option (List D)}
def qSub (qa qb : Env → Option D) : Env → Option D := qOp (lift2 subK) (q2 qa qb)
theorem qr_sub (hu : X.A.units + 1 < cLine) (ha : QR X a qa) (hb : QR X b qb) (hs : PlainIx b) : QR X (.Subscript a b pos) (qSub qa qb) := ⟨(pe_ix (ix_seq.or (ix_dict hu)) ha.pe hb.pe hs).weak fun σ H Q z => tQR_rd rd_sub z⟩
/-! k in d -/
def hasK : D → D → Option Bool
  | b, .dic _ kvs => match dkey b with
    | some k => if plainKeys kvs then some (valD kvs (.inl k)).isSome else none
    | none => none
  | _, _ => none
/-- what a dict holds at a key; an empty one is of any kind -/
def DGetS (H : Hp) (a : Addr) (y : V) (o : Option V) : Prop := DGet H a y o ∨ (Rd H a (.dT []) ∧ ∃ k, y = kV k ∧ o = none)
theorem emptyT {pins : List (Addr × Obj)} {σ : L2.St} {H : Hp} {s : Shared} {a : Addr} (I : Inv X pins σ H s) (h : Rd H a (.dT [])) : (a == sysModules) = false ∧ s.heap.DictOf (mixKind X.prog X.w) a [] := by
  have h' : ObjOk X.prog X.w H s.heap a (.dT []) := by
    rcases h with h | ⟨o, h⟩
    · exact I.hok a _ h
    · exact (I.hok a _ h).2
  obtain ⟨z, y, xs, r, o, es, ep, h1, h2, h3, h4, _⟩ := h'
  cases r
  have e0 : es.toList = [] := by simpa using h4
  have e1 : es = #[] := by simpa using e0
  subst e1
  exact ⟨y, o, #[], ep, h1, h2, h3, fun e m => by simp at m, .nil, by simp⟩
def rDIn (neg : Bool) : R2 := fun y x H Q => ∃ a o, x = .ref a ∧ DGetS H a y o ∧ Q (.bl (neg != o.isSome)) H
theorem op_inDic (hu : X.A.units + 1 < cLine) : OpR X (compareOp .In) (rDIn false) := by
  intro pins s σ H y x u v Q I ry rx h
  obtain ⟨a, o, rfl, g, q⟩ := h
  cases rx
  rcases g with g | ⟨hT, k, rfl, rfl⟩
  · exact d_in hu I g ry fun s' I' => ⟨.bl o.isSome, H, I', rfl, by simpa using q⟩
  · obtain ⟨hd, dd⟩ := emptyT I hT
    exact wpAny_in_of (kV_is ry) hd dd.mapOf ⟨.bl false, H, I.tok _, rfl, by simpa using q⟩
theorem op_niDic (hu : X.A.units + 1 < cLine) : OpR X (compareOp .NotIn) (rDIn true) := by
  intro pins s σ H y x u v Q I ry rx h
  obtain ⟨a, o, rfl, g, q⟩ := h
  cases rx
  rcases g with g | ⟨hT, k, rfl, rfl⟩
  · exact d_notIn hu I g ry fun s' I' => ⟨.bl (!o.isSome), H, I', rfl, by simpa using q⟩
  · obtain ⟨hd, dd⟩ := emptyT I hT
    exact wpAny_notIn_of (kV_is ry) hd dd.mapOf ⟨.bl true, H, I.tok _, rfl, by simpa using q⟩
theorem valD_nil {k : DKey} : valD [] k = none := rfl
theorem hasK_inv {G : Gam} {F : Addr → Prop} {H : Hp} {x y : V} {a b : D} {f1 f2 : List Addr} {c : Bool} (rb : R G F H y b f2) (ra : R G F H x a f1) (e : hasK b a = some c) : ∃ p o, x = .ref p ∧ DGetS H p y o ∧ c = o.isSome := by
  cases a <;> try (simp [hasK] at e; done)
  rename_i u kvs
  simp only [hasK] at e
  split at e
  · rename_i kk hk
    split at e
    · rename_i hp
      cases e
      rw [dkey_R rb hk]
      · obtain ⟨p, es, fp, rfl, hd, t, m⟩ := ra.dic_inv hp
        have vv := t.val (k := kk)
        refine ⟨p, valV es kk, rfl, .inl (.inl ⟨es, kk, hd, rfl, rfl⟩), ?_⟩
        revert vv
        cases valD kvs (.inl kk) with
        | none => intro z; rw [z]; rfl
        | some d => intro ⟨v, f, z, _⟩; rw [z]; rfl
    · cases e
  · cases e
theorem od_inDic (hu : X.A.units + 1 < cLine) : OpD X (compareOp .In) (fun a b => (hasK a b).map .bl) := ⟨_, op_inDic hu, opS2 fun F H fp x y a b d f1 f2 Q w ra m1 rb m2 e q => by
  obtain ⟨c, e1, rfl⟩ := Option.map_eq_some_iff.mp e
  obtain ⟨p, o, rfl, g, rfl⟩ := hasK_inv ra rb e1
  exact ⟨p, o, rfl, g, gives w q (by simpa using Sc.bl o.isSome)⟩⟩
theorem od_niDic (hu : X.A.units + 1 < cLine) : OpD X (compareOp .NotIn) (fun a b => (hasK a b).map fun c => .bl (!c)) := ⟨_, op_niDic hu, opS2 fun F H fp x y a b d f1 f2 Q w ra m1 rb m2 e q => by
  obtain ⟨c, e1, rfl⟩ := Option.map_eq_some_iff.mp e
  obtain ⟨p, o, rfl, g, rfl⟩ := hasK_inv ra rb e1
  exact ⟨p, o, rfl, g, gives w q (by simpa using Sc.bl (!o.isSome))⟩⟩
/-- x in y of any kind -/
def inD : D → D → Option D := orK (strK yesS fun i j => .bl (subS i j)) (orK (fun a b => (inPy a b).map .bl) fun a b => (hasK a b).map .bl)
def niD : D → D → Option D := orK (strK yesS fun i j => .bl (!subS i j)) (orK (fun a b => (inPy a b).map fun c => .bl (!c)) fun a b => (hasK a b).map fun c => .bl (!c))
theorem od_in (hu : X.A.units + 65 < cLine) : OpD X (compareOp .In) inD := od_inS.or ((od_inPy hu).or (od_inDic (by omega)))
theorem od_ni (hu : X.A.units + 65 < cLine) : OpD X (compareOp .NotIn) niD := od_niS.or ((od_niPy hu).or (od_niDic (by omega)))
/-! len(d) -/
def lenDc : D → Option D
  | .dic _ kvs => some (.int kvs.length)
  | _ => none
def rLenDc : List V → Hp → VK → Prop := fun xs H Q => ∃ a n, xs = [.ref a] ∧ ((∃ es, Rd H a (.dK es) ∧ n = es.length) ∨ ∃ es, Rd H a (.dT es) ∧ n = es.length) ∧ Q (.int n) H
theorem call_lenDc : CallR X (.builtin "len") rLenDc := by
  intro pins s σ H xs us Q I r h
  obtain ⟨a, n, rfl, g, q⟩ := h
  obtain ⟨u, rfl, ru⟩ := vals1 r
  cases ru
  rcases g with ⟨es, h, rfl⟩ | ⟨es, h, rfl⟩
  · exact d_len I h fun t s' I' => ⟨.int es.length, H, I', ⟨t, rfl⟩, q⟩
  · obtain ⟨z, hd, ys, rel, dd⟩ := dt_rd I.hok h
    have hl : es.length = ys.length := Paired.length rel
    refine call_len_dictH hd dd (by rw [← hl]; rw [sizeLine_eq] at z; omega) ?_
    rw [← hl]
    exact ⟨.int ((es.length : Nat) : Int), H, I.tok _, ⟨_, rfl⟩, q⟩
theorem cd_lenDc : CallD X (.builtin "len") (lift1 lenDc) := ⟨_, call_lenDc, callS1 fun F H fp x a d f1 Q w ra m1 e q => by
  cases a <;> try (simp [lenDc] at e; done)
  rename_i u kvs
  cases e
  cases ra with
  | dicO h t n => exact ⟨_, kvs.length, rfl, .inl ⟨_, .inl h, by rw [← t.length, List.length_map]⟩, gives w q (.int _)⟩
  | dicF f h t n => exact ⟨_, kvs.length, rfl, .inl ⟨_, h, by rw [← t.length, List.length_map]⟩, gives w q (.int _)⟩
  | ditO h t n _ => exact ⟨_, kvs.length, rfl, .inr ⟨_, .inl h, by rw [← t.length, List.length_map]⟩, gives w q (.int _)⟩
  | ditF f h t n _ => exact ⟨_, kvs.length, rfl, .inr ⟨_, h, by rw [← t.length, List.length_map]⟩, gives w q (.int _)⟩⟩
def orC (k k' : List D → Option D) : List D → Option D := fun ds => match k ds with | some d => some d | none => k' ds
def lenD : List D → Option D := orC (lift1 lenL) (orC (lift1 lenS) (lift1 lenDc))
theorem cd_len : CallD X (.builtin "len") lenD := cd_lenL.or (cd_lenS.or cd_lenDc)
end
end DL

set_option Elab.async false
set_option linter.all false
set_option maxRecDepth 100000
set_option maxHeartbeats 4000000
/-! DL14: what changes a value in its place. -/
namespace DL
open PySem PySem.Spec PyProof.Rows L2

/-- a method (or a store) that changes its receiver: the answer, what the receiver has become -/
def MutS (G : Gam) (r : V → List V → Hp → VK → Prop) (k : D → List D → Option (D × D)) : Prop :=
  ∀ (F : Addr → Prop) (H : Hp) (g ga : List Addr) (y : V) (vs : List V) (d : D) (ds : List D) (res d1 : D) (Q : VK), Wd F H (g ++ ga) → R G F H y d g → Rs G F H vs ds ga → k d ds = some (res, d1) →
    (∀ v F' H' fv g', Ext F H (g ++ ga) F' H' (fv ++ g') → Wd F' H' (fv ++ g') → R G F' H' v res fv → R G F' H' y d1 g' → Q v H') → r y vs H Q
section
variable {G : Gam} {W : WX} {F F1 F2 : Addr → Prop} {H H1 H2 : Hp} {fp fp1 fp2 g g1 g2 : List Addr} {σ : L2.St} {ρ : Env} {Q : VK}
/-- one object of what is worked upon is written; some part of the rest is shared from now on, or given up -/
theorem ext_wr {a : Addr} {ga : List Addr} {o o' : HO} (h : H a = some o) (w : Wd F H (a :: ga)) (ho : Ownable o') : Ext F H (a :: ga) (FF F ga) (upd H a o') [a] ∧ Wd (FF F ga) (upd H a o') [a] := by
  have w1 : Wd F H (ga ++ [a]) := w.perm (by simpa using (List.perm_append_comm (l₁ := [a]) (l₂ := ga)))
  have E1 := Ext.freeze w1
  have W1 := w1.freeze
  obtain ⟨E2, W2⟩ := ext_write (o := o) (o' := o') (List.mem_singleton.mpr rfl) h W1 ho
  exact ⟨(E1.trans E2).perm0 (by simpa using (List.perm_append_comm (l₁ := ga) (l₂ := [a]))), W2⟩
theorem Rs.one_inv {vs : List V} {d : D} {fp : List Addr} (h : Rs G F H vs [d] fp) : ∃ v, vs = [v] ∧ R G F H v d fp := by
  cases h with
  | cons r t =>
    cases t with
    | nil => exact ⟨_, rfl, by simpa using r⟩
/-! ### lists -/
def mAppend : D → List D → Option (D × D)
  | .lst true xs, [d] => if solids xs && decide (xs.length < sizeLine) then some (.non, .lst true (xs ++ [frz d])) else none
  | _, _ => none
theorem ms_append : MutS G rAppend mAppend := by
  intro F H g ga y vs d ds res d1 Q w r rs e q
  unfold mAppend at e
  split at e
  · rename_i xs d'
    split at e
    · rename_i hc
      simp only [Bool.and_eq_true, decide_eq_true_eq] at hc
      cases e
      obtain ⟨v, rfl, rv⟩ := rs.one_inv
      cases r with
      | @lstO a _ _ _ h t =>
        cases Rs.solid0 t hc.1
        refine ⟨a, _, v, rfl, rfl, h, by rw [t.length]; exact hc.2, ?_⟩
        have w' : Wd F H (a :: ga) := w
        obtain ⟨E, W2⟩ := ext_wr (o' := .lst (_ ++ [v])) h w' trivial
        have rf := rv.freeze (g := ga) fun _ m => m
        have w1 : Wd F H (ga ++ [a]) := w'.perm (by simpa using (List.perm_append_comm (l₁ := [a]) (l₂ := ga)))
        have W1 := w1.freeze
        obtain ⟨E2, _⟩ := ext_write (o := .lst _) (o' := .lst (_ ++ [v])) (List.mem_singleton.mpr rfl) h W1 trivial
        have t1 : Rs G (FF F ga) H _ _ [] := t.mono fun _ z => .inl z
        have all : Rs G (FF F ga) (upd H a (.lst (_ ++ [v]))) _ _ [] := (t1.app (.cons (f1 := []) (f2 := []) rf .nil)).keep E2 W1 fun _ m => nomatch m
        exact q .non _ _ [] [a] (by simpa using E) (by simpa using W2) .non (.lstO (fp := []) upd_same all)
    · cases e
  · cases e
def mExtend : D → List D → Option (D × D)
  | .lst true xs, [.lst true ys] => if solids xs && solids ys && decide (xs.length + ys.length ≤ sizeLine) then some (.non, .lst true (xs ++ ys)) else none
  | _, _ => none
theorem ms_extend : MutS G rExtend mExtend := by
  intro F H g ga y vs d ds res d1 Q w r rs e q
  unfold mExtend at e
  split at e
  · rename_i xs ys
    split at e
    · rename_i hc
      simp only [Bool.and_eq_true, decide_eq_true_eq] at hc
      cases e
      obtain ⟨v, rfl, rv⟩ := rs.one_inv
      cases r with
      | @lstO a ws _ _ h t =>
        cases rv with
        | @lstO b us _ _ h2 t2 =>
          cases Rs.solid0 t hc.1.1
          cases Rs.solid0 t2 hc.1.2
          refine ⟨a, b, _, _, rfl, rfl, h, h2, by rw [t.length, t2.length]; exact hc.2, ?_⟩
          have w' : Wd F H (a :: [b]) := w
          obtain ⟨E, W2⟩ := ext_wr (o' := .lst (ws ++ us)) h w' trivial
          have w1 : Wd F H ([b] ++ [a]) := w'.perm (List.Perm.swap _ _ _)
          have W1 := w1.freeze
          obtain ⟨E2, _⟩ := ext_write (o := .lst _) (o' := .lst (ws ++ us)) (List.mem_singleton.mpr rfl) h W1 trivial
          have t1 : Rs G (FF F [b]) H _ _ [] := (t.app t2).mono fun _ z => .inl z
          have all := t1.keep E2 W1 fun _ m => nomatch m
          exact q .non _ _ [] [a] (by simpa using E) (by simpa using W2) .non (.lstO (fp := []) upd_same all)
    · cases e
  · cases e
theorem Rs.eraseS {vs : List V} {ds : List D} (h : Rs G F H vs ds []) (n : Nat) : Rs G F H (vs.eraseIdx n) (ds.eraseIdx n) [] := by
  rw [List.eraseIdx_eq_take_drop_succ, List.eraseIdx_eq_take_drop_succ]
  exact (h.takeS n).app (h.dropS (n + 1))
theorem Rs.dropLastS {vs : List V} {ds : List D} (h : Rs G F H vs ds []) : Rs G F H vs.dropLast ds.dropLast [] := by
  rw [List.dropLast_eq_take, List.dropLast_eq_take, h.length]
  exact h.takeS _
/-- pop(), pop(i) -/
def mPop : D → List D → Option (D × D)
  | .lst true xs, [] => if solids xs then (xs[xs.length - 1]?).map fun d => (d, .lst true xs.dropLast) else none
  | .lst true xs, [.int i] => if solids xs && decide (-(2 ^ 63) ≤ i ∧ i < 2 ^ 63) then (match seqIndex? i xs.length with
    | some k => (xs[k]?).map fun d => (d, .lst true (xs.eraseIdx k))
    | none => none) else none
  | _, _ => none
def rPopAny : V → List V → Hp → VK → Prop := fun x vs H Q => rPop x vs H Q ∨ rPopAt x vs H Q
theorem ms_pop : MutS G rPopAny mPop := by
  intro F H g ga y vs d ds res d1 Q w r rs e q
  unfold mPop at e
  split at e
  · rename_i xs
    split at e
    · rename_i hc
      obtain ⟨d', h1, h2⟩ := Option.map_eq_some_iff.mp e
      cases h2
      cases rs
      cases r with
      | @lstO a ws _ _ h t =>
        cases Rs.solid0 t hc
        obtain ⟨v, h3, rv⟩ := t.at0 h1
        refine .inl ⟨a, _, v, rfl, rfl, h, by rw [t.length]; exact h3, ?_⟩
        have w' : Wd F H [a] := by simpa using w
        obtain ⟨E2, W2⟩ := ext_write (o := .lst _) (o' := .lst ws.dropLast) (List.mem_singleton.mpr rfl) h w' trivial
        exact q v F _ [] [a] (by simpa using E2) (by simpa using W2) (rv.keep E2 w' fun _ m => nomatch m) (.lstO (fp := []) upd_same (t.dropLastS.keep E2 w' fun _ m => nomatch m))
    · cases e
  · rename_i xs i
    split at e
    · rename_i hc
      simp only [Bool.and_eq_true, decide_eq_true_eq] at hc
      split at e
      · rename_i k hk
        obtain ⟨d', h1, h2⟩ := Option.map_eq_some_iff.mp e
        cases h2
        obtain ⟨v0, rfl, rv0⟩ := rs.one_inv
        cases rv0
        cases r with
        | @lstO a ws _ _ h t =>
          cases Rs.solid0 t hc.1
          obtain ⟨v, h3, rv⟩ := t.at0 h1
          refine .inr ⟨a, _, i, k, v, rfl, rfl, h, hc.2.1, hc.2.2, by rw [t.length]; exact hk, h3, ?_⟩
          have w' : Wd F H [a] := by simpa using w
          obtain ⟨E2, W2⟩ := ext_write (o := .lst _) (o' := .lst (ws.eraseIdx k)) (List.mem_singleton.mpr rfl) h w' trivial
          exact q v F _ [] [a] (by simpa using E2) (by simpa using W2) (rv.keep E2 w' fun _ m => nomatch m) (.lstO (fp := []) upd_same ((t.eraseS k).keep E2 w' fun _ m => nomatch m))
      · cases e
    · cases e
  · cases e
theorem mt_popAny {X : Cx} : MtR X "list.pop" rPopAny := MtR.or mt_pop mt_popAt

/-! ### a name's value is changed -/
/-- of the type T -/
def tyD (T : String) : D → Bool
  | .lst _ _ => T == "list"
  | .str _ => T == "str"
  | _ => false
theorem tyD_V {T : String} {x : V} {d : D} {f : List Addr} (r : R G F H x d f) (h : tyD T d = true) : tyV G.K T x H := by
  cases d <;> try (simp [tyD] at h; done)
  case lst u xs =>
    simp only [tyD, beq_iff_eq] at h
    cases r with
    | lstO hs t => exact .inl ⟨h, _, SqL.of hs⟩
    | lstF hs t => exact .inl ⟨h, _, hs.sq⟩
  case str z =>
    simp only [tyD, beq_iff_eq] at h
    cases r
    exact h
/-- name.m(args) -/
def mutN (T : String) (m : D → List D → Option (D × D)) (i : Nat) (f : Env → Res (List D)) : Env → Res D := fun ρ => match ρ[i]? with
  | some (some d0) => if tyD T d0 = true then (f ρ).bind fun ds ρ1 => match ρ1[i]? with
    | some (some d) => match m d ds with
      | some (res, d1) => .ok res (ρ1.set i (some d1))
      | none => .stuck
    | _ => .stuck
    else .stuck
  | _ => .stuck
theorem wp_mutN {K : PySem.W.Frag} (hK : G.K = K) {T : String} {r : V → List V → Hp → VK → Prop} {m : D → List D → Option (D × D)} (o : MutS G r m) {i : Nat} {f : Env → Res (List D)} (h : WpE G W (mutN T m i f) σ H Q) : tBM K T r (tVar i) (WpA G W f) σ H Q := by
  subst hK
  obtain ⟨F, ρ, fp, w, e, p⟩ := h
  unfold mutN at p
  split at p
  · rename_i d0 hd0
    split at p
    · rename_i ht
      obtain ⟨v0, f1, f2, e1, r0, pm, _⟩ := e.get hd0
      refine ⟨v0, e1, tyD_V r0 ht, F, ρ, fp, w, e, ?_⟩
      cases h1 : f ρ with
      | ok ds ρ1 =>
        simp only [h1, Res.bind_ok] at p
        intro vs F1 H1 fv fp1 E1 W1 R1 rs
        cases h2 : ρ1[i]? with
        | none => simp only [h2] at p; exact p.elim
        | some o2 =>
          cases o2 with
          | none => simp only [h2] at p; exact p.elim
          | some d =>
            simp only [h2] at p
            cases h3 : m d ds with
            | none => simp only [h3] at p; exact p.elim
            | some rd =>
              obtain ⟨res, d1⟩ := rd
              simp only [h3] at p
              obtain ⟨v1, g1, g2, e2, r1, pm1, e3⟩ := R1.get h2
              have ev : v1 = v0 := by
                rw [e1] at e2
                cases e2; rfl
              subst ev
              have W1' : Wd F1 H1 (g2 ++ (g1 ++ fv)) := W1.perm (by
                refine (List.Perm.append_left fv pm1).trans ?_
                rw [← List.append_assoc]
                refine List.perm_append_comm.trans ?_
                exact List.Perm.append_left g2 List.perm_append_comm)
              refine o F1 H1 g1 fv v1 vs d ds res d1 Q W1'.right r1 rs h3 fun v F2 H2 fw g' E2 W2 rv ry => ?_
              have B := E2.beside W1'
              have WB := W1'.beside E2 W2
              have e4 := e3.keep E2 W1'.right W1'.apart2
              obtain ⟨g3, p3, e5⟩ := e4.fill e1 (set_get_none h2) ry
              rw [set_none_set] at e5
              have pq : (g2 ++ (fw ++ g')).Perm (fw ++ g3) := by
                refine List.perm_append_comm.trans ?_
                rw [List.append_assoc]
                exact List.Perm.append_left fw p3.symm
              have E1' : Ext F H fp F1 H1 (g2 ++ (g1 ++ fv)) := E1.perm (by
                refine (List.Perm.append_left fv pm1).trans ?_
                rw [← List.append_assoc]
                refine List.perm_append_comm.trans ?_
                exact List.Perm.append_left g2 List.perm_append_comm)
              exact p v F2 H2 fw g3 ((E1'.trans B).perm pq) (WB.perm pq) e5 rv
      | err e ρ1 => simp only [h1, Res.bind_err] at p; exact p
      | stuck => simp only [h1, Res.bind_stuck] at p; exact p
    · exact p.elim
  · exact p.elim
end
section
variable {X : Cx} {W : WX} {e o : Expr} {es : List Expr} {apos cpos : Pos} {name : Str} {T id : String} {r : V → List V → Hp → VK → Prop}
/-- name.m(e, ..): a list's own method -/
theorem de_mutN {m : D → List D → Option (D × D)} {i : Nat} {f : Env → Res (List D)} (pa : PlainAttrs T) (slot : Slot T name id) (hty : typeOf (.builtin id) = pure (.type "method_descriptor")) (hm : MtR X id r) (om : MutS (gam X) r m) (ho : PE X o (tVar i)) (ha : PA X (e :: es) (WpA (gam X) W f))
    (hbase : attributeBase o name X.env (eval o X.env) = eval o X.env := by rfl)
    (hfew : ((backTo cpos (starEach (e :: es) X.env)).all (fun x => !x.1) && (backToKw cpos (keywordEach [] X.env)).all (fun x => x.1.isSome)
      && decide ((e :: es).length + ([] : List Keyword).length + (if ([] : List Keyword).isEmpty then 0 else 1) < 30)) = true := by rfl)
    (hline : (apos.endLine == cpos.line) = true := by rfl) (hs : starEach (e :: es) X.env = (false, eval e X.env) :: starEach es X.env := by rfl) (hplain : (backTo cpos (starEach es X.env)).any (·.1) = false := by rfl) :
    DE X W (.Call (.Attribute o name apos) (e :: es) [] cpos) (mutN T m i f) := ⟨(pe_bm pa slot hty hm ho ha hbase hfew hline hs hplain).weak fun σ H Q z => wp_mutN rfl om z⟩
theorem wp_mutN0 {G : Gam} {σ : L2.St} {H : Hp} {Q : VK} {m : D → List D → Option (D × D)} (om : MutS G r m) {i : Nat} (h : WpE G W (mutN T m i itNil) σ H Q) : tBM0 G.K T r (tVar i) σ H Q := by
  obtain ⟨v, e, t, q⟩ := wp_mutN rfl om h
  exact ⟨v, e, t, wpA_nil q⟩
theorem de_mutN0 {m : D → List D → Option (D × D)} {i : Nat} (pa : PlainAttrs T) (slot : Slot T name id) (hty : typeOf (.builtin id) = pure (.type "method_descriptor")) (hm : MtR X id r) (om : MutS (gam X) r m) (ho : PE X o (tVar i))
    (hbase : attributeBase o name X.env (eval o X.env) = eval o X.env := by rfl) (hline : (apos.endLine == cpos.line) = true := by rfl) :
    DE X W (.Call (.Attribute o name apos) [] [] cpos) (mutN T m i itNil) := ⟨(pe_bm0 pa slot hty hm ho hbase hline).weak fun σ H Q z => wp_mutN0 om z⟩
end
end DL

set_option Elab.async false
set_option linter.all false
set_option maxRecDepth 100000
set_option maxHeartbeats 4000000
/-! DL15: places within a name's value: d['a'], d['a'][k]; what is done there. -/
namespace DL
open PySem PySem.Spec PyProof.Rows L2

def getP : D → List Key → Option D
  | d, [] => some d
  | .dic true kvs, k :: ss => if plainKeys kvs then (valD kvs (.inl k)).bind fun d => getP d ss else none
  | _, _ :: _ => none
def putP : D → List Key → D → D
  | _, [], d1 => d1
  | .dic u kvs, k :: ss, d1 => match valD kvs (.inl k) with
    | some d => .dic u (putD kvs (.inl k) (putP d ss d1))
    | none => .dic u kvs
  | d, _ :: _, _ => d
inductive AtV (H : Hp) : V → List Key → V → Prop
  | here {x} : AtV H x [] x
  | key {a es k v ss y} : H a = some (.dK es) → valV es k = some v → AtV H v ss y → AtV H (.ref a) (k :: ss) y
theorem AtV.det {H : Hp} {x y z : V} {ss : List Key} (h : AtV H x ss y) : AtV H x ss z → y = z := by
  induction h with
  | here => intro h; cases h; rfl
  | key e v _ ih =>
    intro h
    cases h with
    | key e' v' t' =>
      rw [e] at e'
      cases e'
      rw [v] at v'
      cases v'
      exact ih t'
theorem AtV.snoc {H : Hp} {x y : V} {ss : List Key} {a : Addr} {es : List (Key × V)} {k : Key} {v : V} (h : AtV H x ss y) : y = .ref a → H a = some (.dK es) → valV es k = some v → AtV H x (ss ++ [k]) v := by
  induction h with
  | here => intro z e q; subst z; exact .key e q .here
  | key e' v' _ ih => intro z e q; exact .key e' v' (ih z e q)
section
variable {G : Gam} {W : WX} {kp : List Nat} {F F1 F2 : Addr → Prop} {H H1 H2 : Hp} {fp fp1 fp2 g g1 g2 : List Addr} {σ : L2.St} {ρ : Env} {Q : VK}
theorem putD_nil {k : DKey} {d : D} : putD [] k d = [(k, d)] := rfl
theorem putD_hit {k : DKey} {d d1 : D} {r : List (DKey × D)} (hn : k ∉ r.map (·.1)) : putD ((k, d) :: r) k d1 = (k, d1) :: r := by
  unfold putD
  rw [if_pos (by simp)]
  simp only [List.map_cons, if_true, List.cons.injEq, true_and]
  have e : ∀ p ∈ r, (if p.1 = k then (p.1, d1) else p) = p := fun p m => if_neg fun z => hn (by rw [← z]; exact List.mem_map_of_mem m)
  exact (List.map_congr_left e).trans (List.map_id _)
theorem putD_miss {k k' : DKey} {d d1 : D} {r : List (DKey × D)} (hne : k' ≠ k) : putD ((k', d) :: r) k d1 = (k', d) :: putD r k d1 := by
  unfold putD
  simp only [List.any_cons, List.map_cons, decide_eq_false hne, Bool.false_or, if_neg hne]
  by_cases h : (r.any fun p => decide (p.1 = k)) = true
  · rw [if_pos h, if_pos h]
  · rw [if_neg h, if_neg h]; rfl
theorem Re.byK {fb : List Addr} (keep : ∀ {w : V} {c : D} {fc : List Addr}, R G F H w c fc → (∀ a ∈ fc, a ∈ fb) → R G F1 H1 w c fc) : ∀ {l : List (DKey × V)} {c : List (DKey × D)} {fc : List Addr}, Re G F H l c fc → (∀ a ∈ fc, a ∈ fb) → Re G F1 H1 l c fc
  | _, _, _, .nil, _ => .nil
  | _, _, _, .cons r t, m => .cons (keep r fun a h => m a (List.mem_append_left _ h)) (Re.byK keep t fun a h => m a (List.mem_append_right _ h))
/-- one entry, and what becomes of the table when its value is another -/
theorem Re.focus {k : Key} : ∀ {es : List (Key × V)} {kvs : List (DKey × D)} {fp : List Addr} {d : D}, Re G F H (es.map tagK) kvs fp → (kvs.map (·.1)).Nodup → valD kvs (.inl k) = some d →
    ∃ v f rest, valV es k = some v ∧ R G F H v d f ∧ fp.Perm (f ++ rest) ∧ ∀ F1 H1 f1 d1, (∀ {w : V} {c : D} {fc : List Addr}, R G F H w c fc → (∀ a ∈ fc, a ∈ rest) → R G F1 H1 w c fc) → R G F1 H1 v d1 f1 → ∃ g, g.Perm (f1 ++ rest) ∧ Re G F1 H1 (es.map tagK) (putD kvs (.inl k) d1) g
  | [], _, _, _, h, _, e => by cases h; cases e
  | (k', v) :: es, _, _, d, h, hn, e => by
    cases h with
    | @cons _ _ d' _ ds fa fb r t =>
      simp only [List.map_cons, List.nodup_cons] at hn
      by_cases ek : k' = k
      · subst ek
        have e1 : valD ((Sum.inl k', d') :: ds) (.inl k') = some d' := by simp [valD]
        have z : valD ((Sum.inl k', d') :: ds) _ = some d := e
        rw [e1] at z
        cases z
        refine ⟨v, fa, fb, by simp [valV], r, List.Perm.refl _, fun F1 H1 f1 d1 keep r1 => ⟨f1 ++ fb, List.Perm.refl _, ?_⟩⟩
        rw [show putD ((Sum.inl (k', v).1, _) :: ds) (Sum.inl k') d1 = (Sum.inl k', d1) :: ds from putD_hit (by simpa using hn.1)]
        refine .cons r1 ?_
        exact Re.byK keep t fun a m => m
      · have e1 : valD ((Sum.inl k', d') :: ds) (.inl k) = valD ds (.inl k) := by
          unfold valD
          rw [List.find?_cons_of_neg (by simpa using ek)]
        have z : valD ((Sum.inl k', d') :: ds) _ = some d := e
        rw [e1] at z
        obtain ⟨v1, f, rest, h1, h2, h3, h4⟩ := Re.focus t hn.2 z
        refine ⟨v1, f, fa ++ rest, ?_, h2, ?_, fun F1 H1 f1 d1 keep r1 => ?_⟩
        · rw [show valV ((k', v) :: es) k = valV es k from valV_neg ek]; exact h1
        · refine (List.Perm.append_left fa h3).trans ?_
          rw [← List.append_assoc, ← List.append_assoc]
          exact List.Perm.append_right rest List.perm_append_comm
        · obtain ⟨g, p, q⟩ := h4 F1 H1 f1 d1 (fun r' m => keep r' fun a h => List.mem_append_right _ (m a h)) r1
          refine ⟨fa ++ g, ?_, ?_⟩
          · refine (List.Perm.append_left fa p).trans ?_
            rw [← List.append_assoc, ← List.append_assoc]
            exact List.Perm.append_right rest List.perm_append_comm
          · rw [show putD ((Sum.inl (k', v).1, d') :: ds) (Sum.inl k) d1 = (Sum.inl k', d') :: putD ds (Sum.inl k) d1 from putD_miss (by simpa using ek)]
            exact .cons (keep r fun a h => List.mem_append_left _ h) q
theorem putD_keys {k : DKey} {d1 : D} : ∀ {kvs : List (DKey × D)} {d : D}, valD kvs k = some d → (putD kvs k d1).map (·.1) = kvs.map (·.1)
  | [], _, e => by cases e
  | (k', d') :: kvs, d, e => by
    by_cases h : k' = k
    · unfold putD
      rw [if_pos (by simp [h]), List.map_map]
      refine List.map_congr_left fun p _ => ?_
      simp only [Function.comp_apply]
      split <;> rfl
    · rw [putD_miss h, List.map_cons, List.map_cons, putD_keys (d := d)]
      unfold valD at e ⊢
      rw [List.find?_cons_of_neg (by simpa using h)] at e
      exact e
/-- a place within a value: what lies there, and what becomes of the whole -/
theorem R.focus : ∀ (ss : List Key) {x : V} {d0 d : D} {f0 : List Addr}, R G F H x d0 f0 → getP d0 ss = some d →
    ∃ y f rest, AtV H x ss y ∧ R G F H y d f ∧ f0.Perm (f ++ rest) ∧ ∀ F1 H1 g0 g1 f1 d1, Ext F H g0 F1 H1 g1 → Wd F H g0 → (∀ a ∈ rest, a ∉ g0 ∧ ¬ F a) → R G F1 H1 y d1 f1 → ∃ g, g.Perm (f1 ++ rest) ∧ R G F1 H1 x (putP d0 ss d1) g
  | [], x, d0, d, f0, r, e => by
    have e' : d0 = d := by cases d0 <;> simpa [getP] using e
    subst e'
    refine ⟨x, f0, [], .here, r, by simp, fun F1 H1 g0 g1 f1 d1 _ _ _ r1 => ⟨f1, by simp, ?_⟩⟩
    cases d0 <;> exact r1
  | k :: ss, x, d0, d, f0, r, e => by
    cases d0 <;> try (simp [getP] at e; done)
    rename_i u kvs
    cases u <;> try (simp [getP] at e; done)
    simp only [getP] at e
    split at e
    · rename_i hp
      cases hv : valD kvs (.inl k) with
      | none => rw [hv] at e; cases e
      | some d' =>
        rw [hv] at e
        have fin : ∀ {a : Addr} {es : List (Key × V)} {fp : List Addr}, H a = some (.dK es) → Re G F H (es.map tagK) kvs fp → (kvs.map (·.1)).Nodup →
            ∃ y f rest, AtV H (.ref a) (k :: ss) y ∧ R G F H y d f ∧ (a :: fp).Perm (f ++ rest) ∧ ∀ F1 H1 g0 g1 f1 d1, Ext F H g0 F1 H1 g1 → Wd F H g0 → (∀ a ∈ rest, a ∉ g0 ∧ ¬ F a) → R G F1 H1 y d1 f1 → ∃ g, g.Perm (f1 ++ rest) ∧ R G F1 H1 (.ref a) (putP (.dic true kvs) (k :: ss) d1) g := by
          intro a es fp h t hn
          obtain ⟨v, f', rest', h1, h2, h3, h4⟩ := t.focus hn hv
          obtain ⟨y, f, rest, q1, q2, q3, q4⟩ := R.focus ss h2 e
          refine ⟨y, f, a :: (rest ++ rest'), .key h h1 q1, q2, ?_, fun F1 H1 g0 g1 f1 d1 E W0 ap r1 => ?_⟩
          · refine (List.Perm.cons a (h3.trans (List.Perm.append_right rest' q3))).trans ?_
            rw [List.append_assoc]
            exact List.perm_middle.symm
          · obtain ⟨g, p, r2⟩ := q4 F1 H1 g0 g1 f1 d1 E W0 (fun b m => ap b (List.mem_cons_of_mem _ (List.mem_append_left _ m))) r1
            obtain ⟨g', p', r3⟩ := h4 F1 H1 g (putP d' ss d1) (fun r' m => r'.keep E W0 fun b h => ap b (List.mem_cons_of_mem _ (List.mem_append_right _ (m b h)))) r2
            refine ⟨a :: g', ?_, ?_⟩
            · refine (List.Perm.cons a (p'.trans (List.Perm.append_right rest' p))).trans ?_
              rw [List.append_assoc]
              exact List.perm_middle.symm
            · simp only [putP, hv]
              exact .dicO (E.stayO h (ap a List.mem_cons_self).1 (ap a List.mem_cons_self).2) r3 (by rw [putD_keys hv]; exact hn)
        cases r with
        | dicO h t hn => exact fin h t hn
        | ditO h t hn z =>
          exfalso
          have ek := t.keys
          cases kvs with
          | nil => exact z rfl
          | cons q kvs =>
            rename_i es _
            cases es with
            | nil => simp at ek
            | cons p es =>
              simp only [List.map_cons, List.cons.injEq, tagT] at ek
              simp only [plainKeys, List.all_cons, Bool.and_eq_true] at hp
              rw [ek.1] at hp
              simp at hp
    · cases e
/-- the way there stays while only new things come -/
theorem AtV.stay : ∀ (ss : List Key) {x y : V} {d0 d : D} {f0 fw : List Addr}, R G F H x d0 f0 → getP d0 ss = some d → AtV H x ss y → Wd F H f0 → Ext F H [] F1 H1 fw → AtV H1 x ss y := by
  intro ss x y d0 d f0 fw r e h w E
  obtain ⟨y', f, rest, q1, q2, q3, q4⟩ := R.focus ss r e
  obtain ⟨y1, f1, rest1, p1, _⟩ := R.focus ss (r.keep E w.nil fun a m => ⟨fun z => (nomatch z), w.ff a m⟩) e
  have gen : ∀ (ss : List Key) {x : V} {d0 : D} {f0 : List Addr}, R G F H x d0 f0 → getP d0 ss = some d → AtV H x ss y → Wd F H f0 → AtV H1 x ss y := by
    intro ss
    induction ss with
    | nil => intro x d0 f0 r e h w; cases h; exact .here
    | cons k ss ih =>
      intro x d0 f0 r e h w
      cases h with
      | @key a es _ v _ _ ha hv t =>
        cases d0 <;> try (simp [getP] at e; done)
        rename_i u kvs
        cases u <;> try (simp [getP] at e; done)
        simp only [getP] at e
        split at e
        · cases hk : valD kvs (.inl k) with
          | none => rw [hk] at e; cases e
          | some d' =>
            rw [hk] at e
            cases r with
            | @dicO _ es' _ fp' h2 t2 hn =>
              rw [ha] at h2
              cases h2
              have vv := t2.val (k := k)
              rw [hk] at vv
              obtain ⟨v', f', z1, z2, z3⟩ := vv
              rw [hv] at z1
              cases z1
              obtain ⟨v2, f2, rest2, y1, y2, y3, _⟩ := t2.focus hn hk
              rw [hv] at y1
              cases y1
              have w2 : Wd F H f2 := ((w.sub (List.sublist_cons_self _ _)).perm y3).left
              exact .key (E.stayO ha (fun z => (nomatch z)) (w.ff a List.mem_cons_self)) hv (ih y2 e t w2)
            | ditO h2 _ _ _ => rw [ha] at h2; cases h2
        · cases e
  exact gen ss r e h w
end
end DL

set_option Elab.async false
set_option linter.all false
set_option maxRecDepth 100000
set_option maxHeartbeats 4000000
/-! DL16: places: their rules. -/
namespace DL
open PySem PySem.Spec PyProof.Rows L2

/-- the place of the steps st within the i-th name's value -/
def tPL (G : Gam) (i : Nat) (st : Env → Option (List Key)) : TE := fun σ H Q => ∃ F ρ fp, Wd F H fp ∧ EnvR G F H σ ρ fp ∧ ∃ ss d0 d, st ρ = some ss ∧ ρ[i]? = some (some d0) ∧ getP d0 ss = some d ∧
  ∀ x y F' H' fv, Ext F H [] F' H' fv → Wd F' H' (fv ++ fp) → EnvR G F' H' σ ρ fp → σ[i]? = some (some x) → AtV H' x ss y → Q y H'
structure PL (X : Cx) (e : Expr) (i : Nat) (st : Env → Option (List Key)) : Prop where
  pe : PE X e (tPL (gam X) i st)
def pNil : Env → Option (List Key) := fun _ => some []
def pKey (st : Env → Option (List Key)) (q : Env → Option D) : Env → Option (List Key) := fun ρ => match st ρ, q ρ with
  | some ss, some dk => (dkey dk).map fun k => ss ++ [k]
  | _, _ => none
theorem getP_snoc {k : Key} {d : D} : ∀ (ss : List Key) {d0 : D}, getP d0 (ss ++ [k]) = some d → ∃ kvs, getP d0 ss = some (.dic true kvs) ∧ plainKeys kvs = true ∧ valD kvs (.inl k) = some d
  | [], d0, h => by
    cases d0 <;> try (simp [getP] at h; done)
    rename_i u kvs
    cases u <;> try (simp [getP] at h; done)
    simp only [List.nil_append, getP] at h
    split at h
    · rename_i hp
      cases hv : valD kvs (.inl k) with
      | none => rw [hv] at h; cases h
      | some d' =>
        rw [hv] at h
        simp only [Option.bind_some] at h
        refine ⟨kvs, rfl, hp, ?_⟩
        rw [hv]
        cases d' <;> simpa [getP] using h
    · cases h
  | s :: ss, d0, h => by
    cases d0 <;> try (simp [getP] at h; done)
    rename_i u kvs
    cases u <;> try (simp [getP] at h; done)
    simp only [List.cons_append, getP] at h
    split at h
    · rename_i hp
      cases hv : valD kvs (.inl s) with
      | none => rw [hv] at h; cases h
      | some d' =>
        rw [hv] at h
        simp only [Option.bind_some] at h
        obtain ⟨kvs', h1, h2, h3⟩ := getP_snoc ss h
        exact ⟨kvs', by simp only [getP, if_pos hp, hv, Option.bind_some]; exact h1, h2, h3⟩
    · cases h
section
variable {G : Gam} {W : WX} {kp : List Nat} {F F1 F2 : Addr → Prop} {H H1 H2 : Hp} {fp fp1 fp2 g g1 g2 : List Addr} {σ : L2.St} {ρ : Env} {Q : VK}
/-- a name's value, the place in it, and all else -/
theorem EnvR.focus {i : Nat} {ss : List Key} {d0 d : D} {x y : V} (e : EnvR G F H σ ρ fp) (h0 : ρ[i]? = some (some d0)) (hg : getP d0 ss = some d) (hx : σ[i]? = some (some x)) (at0 : AtV H x ss y) :
    ∃ f rest, R G F H y d f ∧ fp.Perm (f ++ rest) ∧ ∀ F1 H1 g0 g1 f1 d1, Ext F H g0 F1 H1 g1 → Wd F H g0 → (∀ a ∈ rest, a ∉ g0 ∧ ¬ F a) → R G F1 H1 y d1 f1 → ∃ g, g.Perm (f1 ++ rest) ∧ EnvR G F1 H1 σ (ρ.set i (some (putP d0 ss d1))) g := by
  obtain ⟨x', fa, fb, e1, r, pm, e2⟩ := e.get h0
  rw [hx] at e1
  cases e1
  obtain ⟨y', f, rest, q1, q2, q3, q4⟩ := R.focus ss r hg
  cases q1.det at0
  refine ⟨f, rest ++ fb, q2, ?_, fun F1 H1 g0 g1 f1 d1 E W0 ap r1 => ?_⟩
  · rw [← List.append_assoc]
    exact pm.trans (List.Perm.append_right fb q3)
  · obtain ⟨g, p, r2⟩ := q4 F1 H1 g0 g1 f1 d1 E W0 (fun a m => ap a (List.mem_append_left _ m)) r1
    have e3 := e2.keep E W0 fun a m => ap a (List.mem_append_right _ m)
    obtain ⟨g', p', e4⟩ := e3.fill hx (set_get_none h0) r2
    rw [set_none_set] at e4
    refine ⟨g', ?_, e4⟩
    rw [← List.append_assoc]
    exact p'.trans (List.Perm.append_right fb p)
/-- the way stays while new things come -/
theorem at_stay {i : Nat} {ss : List Key} {d0 d : D} {x y : V} {fv : List Addr} (e : EnvR G F H σ ρ fp) (w : Wd F H fp) (h0 : ρ[i]? = some (some d0)) (hg : getP d0 ss = some d) (hx : σ[i]? = some (some x)) (at0 : AtV H x ss y) (E : Ext F H [] F1 H1 fv) : AtV H1 x ss y := by
  obtain ⟨x', fa, fb, e1, r, pm, e2⟩ := e.get h0
  rw [hx] at e1
  cases e1
  exact AtV.stay ss r hg at0 (w.perm pm).left E
theorem tPL_nm {i : Nat} (h : tPL G i pNil σ H Q) : tVar i σ H Q := by
  obtain ⟨F, ρ, fp, w, e, ss, d0, d, h1, h2, h3, k⟩ := h
  cases h1
  obtain ⟨v, f1, f2, e1, _⟩ := e.get h2
  exact ⟨v, e1, k v v F H [] (Ext.refl w.nil) w e e1 .here⟩
theorem tPL_sub {i : Nat} {st : Env → Option (List Key)} {q : Env → Option D} (h : tPL G i (pKey st q) σ H Q) : tOp rDGet (tPL G i st) (tQR G q) σ H Q := by
  obtain ⟨F, ρ, fp, w, e, ss', d0, d, h1, h2, h3, k⟩ := h
  unfold pKey at h1
  split at h1
  · rename_i ss dk hs hq
    obtain ⟨kk, hk, rfl⟩ := Option.map_eq_some_iff.mp h1
    obtain ⟨kvs, g1, g2, g3⟩ := getP_snoc ss h3
    refine ⟨F, ρ, fp, w, e, ss, d0, _, hs, h2, g1, fun x y F1 H1 fv E1 W1 e1 hx at1 => ?_⟩
    refine ⟨F1, ρ, fp, W1.right, e1, dk, hq, fun z F2 H2 fw fz E2 W2 e2 rz m => ?_⟩
    have at2 := at_stay e1 W1.right h2 g1 hx at1 E2
    obtain ⟨f, rest, r, _, _⟩ := e2.focus h2 g1 hx at2
    have ez := dkey_R rz hk
    cases r with
    | @dicO a es _ _ h t n =>
      have vv := t.val (k := kk)
      rw [g3] at vv
      obtain ⟨v, f', z1, z2, z3⟩ := vv
      subst ez
      refine ⟨a, v, rfl, .inl ⟨es, kk, .inl h, rfl, z1.symm⟩, ?_⟩
      exact k x v F2 H2 (fw ++ fv) (fresh_trans E1 W1.left E2) (fresh_more E2 W2.left W1) e2 hx (at2.snoc rfl h z1)
    | @ditO a es _ _ h t n z =>
      exfalso
      obtain ⟨_, _, _, er, hd, _⟩ := R.dic_inv (G := G) (F := F2) (H := H2) (.ditO h t n z) g2
      cases er
      rcases hd with hd | ⟨o, hd⟩
      · rw [h] at hd; cases hd
      · rw [h] at hd; cases hd
  · cases h1
/-! a method of what lies at a place -/
def mutP (T : String) (m : D → List D → Option (D × D)) (i : Nat) (st : Env → Option (List Key)) (qs : Env → Option (List D)) : Env → Res D := fun ρ => match st ρ, ρ[i]?, qs ρ with
  | some ss, some (some d0), some ds => match getP d0 ss with
    | some d => if (tyD T d && solids ds) = true then (match m d ds with
      | some (res, d1) => .ok res (ρ.set i (some (putP d0 ss d1)))
      | none => .stuck) else .stuck
    | none => .stuck
  | _, _, _ => .stuck
theorem wp_mutP {K : PySem.W.Frag} (hK : G.K = K) {T : String} {r : V → List V → Hp → VK → Prop} {m : D → List D → Option (D × D)} (o : MutS G r m) {i : Nat} {st : Env → Option (List Key)} {qs : Env → Option (List D)} (h : WpE G W (mutP T m i st qs) σ H Q) : tBM K T r (tPL G i st) (tQL G qs) σ H Q := by
  subst hK
  obtain ⟨F, ρ, fp, w, e, p⟩ := h
  unfold mutP at p
  split at p
  · rename_i ss d0 ds h1 h2 h3
    split at p
    · rename_i d hg
      split at p
      · rename_i hc
        simp only [Bool.and_eq_true] at hc
        split at p
        · rename_i res d1 hm
          refine ⟨F, ρ, fp, w, e, ss, d0, d, h1, h2, hg, fun x y F1 H1 fv E1 W1 e1 hx at1 => ?_⟩
          obtain ⟨f, rest, r, _, _⟩ := e1.focus h2 hg hx at1
          refine ⟨tyD_V r hc.1, F1, ρ, fp, W1.right, e1, ds, h3, fun ys F2 H2 fw E2 W2 e2 rs => ?_⟩
          have at2 := at_stay e1 W1.right h2 hg hx at1 E2
          obtain ⟨f2, rest2, r2, pm, k2⟩ := e2.focus h2 hg hx at2
          have W2' : Wd F2 H2 (rest2 ++ f2) := (W2.right.perm pm).perm List.perm_append_comm
          have W3 : Wd F2 H2 (f2 ++ []) := by rw [List.append_nil]; exact W2'.right
          refine o F2 H2 f2 [] y ys d ds res d1 Q W3 r2 (rs.rs hc.2) hm fun v F3 H3 fr g' E3 W3' rv ry => ?_
          rw [List.append_nil] at E3
          obtain ⟨g3, p3, e3⟩ := k2 F3 H3 f2 (fr ++ g') g' d1 E3 W2'.right W2'.apart2 ry
          have B := E3.beside W2'
          have WB := W2'.beside E3 W3'
          have pq : (rest2 ++ (fr ++ g')).Perm (fr ++ g3) := by
            refine List.perm_append_comm.trans ?_
            rw [List.append_assoc]
            exact List.Perm.append_left fr p3.symm
          have E02 : Ext F H fp F2 H2 (rest2 ++ f2) := by
            have := (fresh_beside (fresh_trans E1 W1.left E2) ((fresh_more E2 W2.left W1).left) w e).1
            exact (this.less fun a m => List.mem_append_right _ m).perm (pm.trans List.perm_append_comm)
          exact p v F3 H3 fr g3 ((E02.trans B).perm pq) (WB.perm pq) e3 rv
        · exact p.elim
      · exact p.elim
    · exact p.elim
  · exact p.elim
/-! P[k] = e -/
theorem putK_hit {k : Key} {v v1 : V} {r : List (Key × V)} (hn : k ∉ r.map (·.1)) : putK ((k, v) :: r) k v1 = (k, v1) :: r := by
  unfold putK
  rw [if_pos (by simp)]
  simp only [List.map_cons, if_true, List.cons.injEq, true_and]
  have e : ∀ p ∈ r, (if p.1 = k then (p.1, v1) else p) = p := fun p m => if_neg fun z => hn (by rw [← z]; exact List.mem_map_of_mem m)
  exact (List.map_congr_left e).trans (List.map_id _)
theorem putK_miss {k k' : Key} {v v1 : V} {r : List (Key × V)} (hne : k' ≠ k) : putK ((k', v) :: r) k v1 = (k', v) :: putK r k v1 := by
  unfold putK
  simp only [List.any_cons, List.map_cons, decide_eq_false hne, Bool.false_or, if_neg hne]
  by_cases h : (r.any fun p => decide (p.1 = k)) = true
  · rw [if_pos h, if_pos h]
  · rw [if_neg h, if_neg h]; rfl
theorem Re.put {k : Key} {v : V} {d : D} {fv : List Addr} (rv : R G F H v d fv) : ∀ {es : List (Key × V)} {kvs : List (DKey × D)} {fp : List Addr}, Re G F H (es.map tagK) kvs fp → (kvs.map (·.1)).Nodup →
    ∃ g rest, (g ++ rest).Perm (fv ++ fp) ∧ Re G F H ((putK es k v).map tagK) (putD kvs (.inl k) d) g
  | [], _, fp, h, _ => by
    cases h
    exact ⟨fv ++ [], [], by simp, .cons rv .nil⟩
  | (k', w) :: es, _, _, h, hn => by
    cases h with
    | @cons _ _ d' _ ds fa fb r t =>
      simp only [List.map_cons, List.nodup_cons] at hn
      have hk : es.map (fun p => (Sum.inl p.1 : DKey)) = ds.map (·.1) := by
        have := t.keys
        rw [this, List.map_map]; rfl
      by_cases ek : k' = k
      · subst ek
        have hn' : k' ∉ es.map (·.1) := fun z => hn.1 (by
          show Sum.inl k' ∈ ds.map (·.1)
          rw [← hk]
          obtain ⟨p, hp, e⟩ := List.mem_map.mp z
          exact List.mem_map.mpr ⟨p, hp, by rw [e]⟩)
        rw [putK_hit hn', show putD ((Sum.inl (k', w).1, d') :: ds) (Sum.inl k') d = (Sum.inl k', d) :: ds from putD_hit (by simpa using hn.1)]
        refine ⟨fv ++ fb, fa, ?_, .cons rv t⟩
        rw [List.append_assoc]
        exact List.Perm.append_left fv List.perm_append_comm
      · obtain ⟨g, rest, p, q⟩ := Re.put (k := k) rv t hn.2
        rw [putK_miss ek, show putD ((Sum.inl (k', w).1, d') :: ds) (Sum.inl k) d = (Sum.inl k', d') :: putD ds (Sum.inl k) d from putD_miss (by simpa using ek)]
        refine ⟨fa ++ g, rest, ?_, .cons r q⟩
        rw [List.append_assoc]
        refine (List.Perm.append_left fa p).trans ?_
        rw [← List.append_assoc, ← List.append_assoc]
        exact List.Perm.append_right fb List.perm_append_comm
theorem putD_nodup {k : DKey} {d : D} {kvs : List (DKey × D)} (h : (kvs.map (·.1)).Nodup) : ((putD kvs k d).map (·.1)).Nodup := by
  unfold putD
  split
  · rw [List.map_map]
    have e : (kvs.map ((·.1) ∘ fun p => if p.1 = k then (p.1, d) else p)) = kvs.map (·.1) := List.map_congr_left fun p _ => by
      simp only [Function.comp_apply]
      split <;> rfl
    rw [e]; exact h
  · rename_i hn
    rw [List.map_append, List.nodup_append]
    refine ⟨h, by simp, fun a m b n z => hn ?_⟩
    subst z
    simp only [List.map_cons, List.map_nil, List.mem_singleton] at n
    subst n
    obtain ⟨p, hp, e⟩ := List.mem_map.mp m
    exact List.any_eq_true.mpr ⟨p, hp, decide_eq_true e⟩
def putS (i : Nat) (st : Env → Option (List Key)) (qk : Env → Option D) (f : Env → Res D) : Env → SR := fun ρ => bindS (f ρ) fun v ρ1 => match st ρ1, ρ1[i]?, qk ρ1 with
  | some ss, some (some d0), some dk => match getP d0 ss, dkey dk with
    | some (.dic true kvs), some k => if (plainKeys kvs && decide (kvs.length < sizeLine)) = true then .nx (ρ1.set i (some (putP d0 ss (.dic true (putD kvs (.inl k) v))))) else .stuck
    | _, _ => .stuck
  | _, _, _ => .stuck
theorem wp_putS {i : Nat} {st : Env → Option (List Key)} {qk : Env → Option D} {f : Env → Res D} {D' : Ends} (h : WpS G W kp (putS i st qk f) D' σ H) : sDPut (tPL G i st) (tQR G qk) (WpE G W f) D' σ H := by
  refine wpS_bindE h fun v ρ1 v' F1 H1 fv fp1 w1 e1 r1 p => ?_
  split at p
  · rename_i ss d0 dk h1 h2 h3
    split at p
    · rename_i kvs k hg hk
      split at p
      · rename_i hc
        simp only [Bool.and_eq_true, decide_eq_true_eq] at hc
        refine ⟨F1, ρ1, fp1, w1.right, e1, ss, d0, _, h1, h2, hg, fun x y F2 H2 fw E2 W2 e2 hx at2 => ?_⟩
        refine ⟨F2, ρ1, fp1, W2.right, e2, dk, h3, fun z F3 H3 fx fz E3 W3 e3 rz m => ?_⟩
        have at3 := at_stay e2 W2.right h2 hg hx at2 E3
        obtain ⟨f', rest, r, pm, k2⟩ := e3.focus h2 hg hx at3
        have E13 := fresh_trans E2 W2.left E3
        have W13 := fresh_more E3 W3.left W2
        have rv : R G F3 H3 v' v fv := r1.keep E13 w1.nil fun a m => ⟨fun z => (nomatch z), w1.left.ff a m⟩
        have W1' : Wd F1 H1 ((fv ++ fp1) ++ []) := by rw [List.append_nil]; exact w1
        have WV : Wd F3 H3 (fv ++ fp1) := (W1'.beside E13 W13.left).left
        have EV : Ext F1 H1 (fv ++ fp1) F3 H3 (fv ++ fp1) := by
          have := E13.beside W1'
          rw [List.append_nil] at this
          exact this.less fun a m => List.mem_append_left _ m
        cases r with
        | @dicO a es _ fd h t n =>
          obtain ⟨g, gr, pg, t2⟩ := Re.put (k := k) rv t n
          have hlen : es.length = kvs.length := by rw [← t.length, List.length_map]
          refine ⟨a, upd H3 a (.dK (putK es k v')), rfl, ?_, ?_⟩
          · rw [dkey_R rz hk]
            exact DPut.k h (by rw [hlen]; exact hc.2)
          · -- the heap behind
            have pall : (fv ++ fp1).Perm (rest ++ (a :: (g ++ gr))) := by
              refine (List.Perm.append_left fv pm).trans ?_
              refine List.Perm.trans ?_ List.perm_append_comm
              rw [← List.append_assoc]
              refine List.Perm.append_right rest ?_
              refine List.Perm.trans ?_ (List.Perm.cons a pg.symm)
              exact List.perm_middle
            have WA : Wd F3 H3 (rest ++ (a :: (g ++ gr))) := WV.perm pall
            have WD0 : Wd F3 H3 (a :: (g ++ gr)) := WA.right
            have EA : Ext F3 H3 (a :: (g ++ gr)) F3 (upd H3 a (.dK (putK es k v'))) (a :: g) ∧ Wd F3 (upd H3 a (.dK (putK es k v'))) (a :: g) := by
              obtain ⟨E5, W5⟩ := ext_write (o := .dK es) (o' := .dK (putK es k v')) List.mem_cons_self h WD0 trivial
              have sb : (a :: g).Sublist (a :: (g ++ gr)) := List.Sublist.cons_cons a (List.sublist_append_left _ _)
              exact ⟨E5.less fun b m => sb.subset m, W5.sub sb⟩
            have nog : ∀ b ∈ g, b ∉ [a] ∧ ¬ F3 b := fun b m => ⟨fun z => by
              rw [List.mem_singleton] at z
              subst z
              exact (List.nodup_cons.mp WD0.nodup).1 (List.mem_append_left _ m), WD0.ff b (List.mem_cons_of_mem _ (List.mem_append_left _ m))⟩
            have Wa : Wd F3 H3 [a] := WD0.sub (List.Sublist.cons_cons a (List.nil_sublist _))
            obtain ⟨E6, W6⟩ := ext_write (o := .dK es) (o' := .dK (putK es k v')) (List.mem_singleton.mpr rfl) h Wa trivial
            have t3 := t2.keep E6 Wa nog
            have rnew : R G F3 (upd H3 a (.dK (putK es k v'))) (.ref a) (.dic true (putD kvs (.inl k) v)) (a :: g) := .dicO upd_same t3 (putD_nodup n)
            obtain ⟨g3, p3, e5⟩ := k2 F3 _ (a :: (g ++ gr)) (a :: g) (a :: g) _ EA.1 WD0 WA.apart2 rnew
            have WB := (WA.beside EA.1 EA.2)
            have B := EA.1.beside WA
            have pq : (rest ++ (a :: g)).Perm g3 := List.perm_append_comm.trans p3.symm
            have Efin : Ext F1 H1 (fv ++ fp1) F3 (upd H3 a (.dK (putK es k v'))) g3 := ((EV.perm pall).trans B).perm pq
            exact p σ F3 _ g3 Efin (WB.perm pq) e5 Keep.refl
        | @ditO a es _ _ h t n z =>
          exfalso
          obtain ⟨_, _, _, er, hd, _⟩ := R.dic_inv (G := G) (F := F3) (H := H3) (.ditO h t n z) hc.1
          cases er
          rcases hd with hd | ⟨o, hd⟩
          · rw [h] at hd; cases hd
          · rw [h] at hd; cases hd
      · exact p.elim
    · exact p.elim
  · exact p.elim
end
section
variable {X : Cx} {W : WX} {kp : List Nat} {e o a b : Expr} {es : List Expr} {apos cpos pos : Pos} {name : Str} {T id : String} {r : V → List V → Hp → VK → Prop}
theorem pl_nm {i : Nat} (h : PE X e (tVar i)) : PL X e i pNil := ⟨h.weak fun σ H Q z => tPL_nm z⟩
theorem pl_sub {i : Nat} {st : Env → Option (List Key)} {q : Env → Option D} (hu : X.A.units + 1 < cLine) (ha : PL X a i st) (hb : QR X b q) (hs : PlainIx b) : PL X (.Subscript a b pos) i (pKey st q) :=
  ⟨(pe_ix (ix_dict hu) ha.pe hb.pe hs).weak fun σ H Q z => tPL_sub z⟩
/-- P.m(e, ..) -/
theorem de_mutP {m : D → List D → Option (D × D)} {i : Nat} {st : Env → Option (List Key)} {qs : Env → Option (List D)} (pa : PlainAttrs T) (slot : Slot T name id) (hty : typeOf (.builtin id) = pure (.type "method_descriptor")) (hm : MtR X id r) (om : MutS (gam X) r m) (ho : PL X o i st) (ha : QL X (e :: es) qs)
    (hbase : attributeBase o name X.env (eval o X.env) = eval o X.env := by rfl)
    (hfew : ((backTo cpos (starEach (e :: es) X.env)).all (fun x => !x.1) && (backToKw cpos (keywordEach [] X.env)).all (fun x => x.1.isSome)
      && decide ((e :: es).length + ([] : List Keyword).length + (if ([] : List Keyword).isEmpty then 0 else 1) < 30)) = true := by rfl)
    (hline : (apos.endLine == cpos.line) = true := by rfl) (hs : starEach (e :: es) X.env = (false, eval e X.env) :: starEach es X.env := by rfl) (hplain : (backTo cpos (starEach es X.env)).any (·.1) = false := by rfl) :
    DE X W (.Call (.Attribute o name apos) (e :: es) [] cpos) (mutP T m i st qs) := ⟨(pe_bm pa slot hty hm ho.pe ha.pa hbase hfew hline hs hplain).weak fun σ H Q z => wp_mutP rfl om z⟩
/-- P[k] = e -/
theorem ds_put {i : Nat} {st : Env → Option (List Key)} {q : Env → Option D} {f : Env → Res D} {value : Expr} {pos' : Pos} (hu : X.A.units + 1 < cLine) (ho : PL X o i st) (hk : QR X e q) (hv : DE X W value f) (hs : swapsWith value (some (.Subscript o e pos')) pos.line X.env = pure false := by rfl) :
    DS X W kp (.Assign [.Subscript o e pos'] value pos) (putS i st q f) := ⟨(ps_dput hu ho.pe hk.pe hv.pe hs).weak fun D σ H z => wp_putS z⟩
end
end DL

set_option Elab.async false
set_option linter.all false
set_option maxRecDepth 100000
set_option maxHeartbeats 4000000
/-! DL17: dict displays, ranges. -/
namespace DL
open PySem PySem.Spec PyProof.Rows L2

/-! ### {k: e, ..} with written keys -/
abbrev KF := Key × (Env → Res D)
def itFs : List KF → Env → Res (List D)
  | [] => itNil
  | p :: l => itOne p.2 (itFs l)
def dispE (l : List KF) : Env → Res D := fun ρ => (itFs l ρ).bind fun ds ρ' => .ok (.dic true ((l.map fun p => (Sum.inl p.1 : DKey)).zip ds)) ρ'
section
variable {G : Gam} {W : WX} {F F1 F2 : Addr → Prop} {H H1 H2 : Hp} {fp fp1 fp2 g g1 g2 : List Addr} {σ : L2.St} {ρ : Env} {Q : VK}
def trsOf (G : Gam) (W : WX) (l : List KF) : List (TE × TE) := l.map fun p => (tC (kV p.1), WpE G W p.2)
theorem wp_pairs : ∀ {l : List KF} {H : Hp} {Q : List (V × V) → Hp → Prop}, WpA G W (itFs l) σ H (fun vs H' => vs.length = l.length → Q ((l.map fun p => kV p.1).zip vs) H') → tPairs (trsOf G W l) σ H Q
  | [], H, Q, h => wpA_nil (Q := fun vs H' => vs.length = 0 → Q ([].zip vs) H') h rfl
  | p :: l, H, Q, h => by
    have z : tCons (WpE G W p.2) (WpA G W (itFs l)) σ H _ := wpA_one h
    refine wpE_mono z fun v H1 q => ?_
    refine wp_pairs ?_
    obtain ⟨F, ρ, fp, w, e, p'⟩ := q
    refine ⟨F, ρ, fp, w, e, ?_⟩
    cases h1 : itFs l ρ with
    | ok ds ρ1 =>
      simp only [h1] at p' ⊢
      exact fun vs F' H' fv fp' E' W' R' r' hl => p' vs F' H' fv fp' E' W' R' r' (by simp [hl])
    | err e ρ1 => simp only [h1] at p' ⊢; exact p'
    | stuck => simp only [h1] at p' ⊢; exact p'
theorem mergeK_new : ∀ {more kvs : List (Key × V)}, ((kvs ++ more).map (·.1)).Nodup → mergeK kvs more = kvs ++ more
  | [], kvs, _ => by simp [mergeK]
  | p :: more, kvs, h => by
    have e : putK kvs p.1 p.2 = kvs ++ [p] := by
      unfold putK
      rw [if_neg]
      intro z
      obtain ⟨q, hq, hk⟩ := List.any_eq_true.mp z
      have hk' : q.1 = p.1 := of_decide_eq_true hk
      rw [List.map_append, List.nodup_append] at h
      exact h.2.2 q.1 (List.mem_map_of_mem hq) p.1 (by simp) hk'
    show mergeK (putK kvs p.1 p.2) more = _
    rw [e, mergeK_new (by simpa using h)]
    simp
theorem Rs.dic : ∀ {ks : List Key} {vs : List V} {ds : List D} {fp : List Addr}, Rs G F H vs ds fp → ks.length = ds.length → Re G F H ((ks.zip vs).map tagK) ((ks.map fun k => (Sum.inl k : DKey)).zip ds) fp
  | [], _, [], _, .nil, _ => .nil
  | k :: ks, _, _, _, .cons r t, h => .cons r (Rs.dic t (by simpa using h))
  | [], _, _ :: _, _, .cons _ _, h => by simp at h
  | _ :: _, _, [], _, .nil, h => by simp at h
theorem itFs_len : ∀ {l : List KF} {ρ ρ' : Env} {ds : List D}, itFs l ρ = .ok ds ρ' → ds.length = l.length
  | [], ρ, ρ', ds, h => by simp only [itFs, itNil, Res.ok.injEq] at h; rw [← h.1]; rfl
  | p :: l, ρ, ρ', ds, h => by
    simp only [itFs, itOne] at h
    cases h1 : p.2 ρ with
    | stuck => rw [h1] at h; cases h
    | err _ _ => rw [h1] at h; cases h
    | ok d ρ1 =>
      rw [h1] at h
      simp only [Res.bind_ok] at h
      cases h2 : itFs l ρ1 with
      | stuck => rw [h2] at h; cases h
      | err _ _ => rw [h2] at h; cases h
      | ok ds' ρ2 =>
        rw [h2] at h
        simp only [Res.bind_ok, Res.ok.injEq] at h
        rw [← h.1]
        simp [itFs_len h2]
theorem zip_kV : ∀ (l : List KF) (vs : List V), (l.map fun p => kV p.1).zip vs = ((l.map (·.1)).zip vs).map fun kv => (kV kv.1, kv.2)
  | [], _ => rfl
  | _ :: _, [] => rfl
  | p :: l, v :: vs => by simp [zip_kV l vs]
theorem wp_disp {l : List KF} (hn : (l.map (·.1)).Nodup) (h15 : l.length ≤ 15) (h : WpE G W (dispE l) σ H Q) : tDisp (trsOf G W l) σ H Q := by
  intro p hp
  refine wp_pairs ?_
  obtain ⟨F, ρ, fp, w, e, pp⟩ := h
  unfold dispE at pp
  have wn : Wd F H (fp ++ []) := by rw [List.append_nil]; exact w
  have W1 : Wd F (upd H p (.dK [])) (fp ++ []) := wn.beside (ext_new hp) (wd_new w hp)
  rw [List.append_nil] at W1
  have e1 : EnvR G F (upd H p (.dK [])) σ ρ fp := e.keep (ext_new (F := F) hp) w.nil fun a m => ⟨fun z => (nomatch z), w.ff a m⟩
  have pF : ¬ F p := fun z => w.ft p z hp
  have pfp : p ∉ fp := fun z => by
    obtain ⟨o, eo, _⟩ := w.own p z
    rw [hp] at eo; cases eo
  have E0 : Ext F H fp F (upd H p (.dK [])) fp := by
    have := (ext_new (F := F) (o := .dK []) hp).beside wn
    simpa using this
  refine ⟨F, ρ, fp, W1, e1, ?_⟩
  cases h1 : itFs l ρ with
  | ok ds ρ1 =>
    simp only [h1, Res.bind_ok] at pp
    intro vs F2 H2 fv fp2 E2 W2 R2 rs hl
    have hp2 : H2 p = some (.dK []) := E2.stayO upd_same pfp pF
    have npF : ¬ F2 p := fun z => (E2.fz p z).elim pF fun q => q.elim pfp fun q => by rw [upd_same] at q; cases q
    have np2 : p ∉ fv ++ fp2 := fun z => (E2.old p z).elim pfp fun q => by rw [upd_same] at q; cases q
    refine ⟨hp2, (l.map (·.1)).zip vs, ?_, ?_, ?_⟩
    · exact zip_kV l vs
    · rw [List.length_zip, List.length_map]; omega
    · have hlv : (l.map (·.1)).length = vs.length := by rw [List.length_map, hl]
      rw [mergeK_new (kvs := []) (by
        rw [List.nil_append, List.map_fst_zip (by omega)]
        exact hn), List.nil_append]
      have WP : Wd F2 H2 (p :: (fv ++ fp2)) := ⟨List.nodup_cons.mpr ⟨np2, W2.nodup⟩, fun a m => by
        rcases List.mem_cons.mp m with rfl | m
        · exact npF
        · exact W2.ff a m, fun a m => by
        rcases List.mem_cons.mp m with rfl | m
        · exact ⟨_, hp2, trivial⟩
        · exact W2.own a m, W2.ft⟩
      have Wp : Wd F2 H2 [p] := WP.sub (List.Sublist.cons_cons p (List.nil_sublist _))
      obtain ⟨E3, W3⟩ := ext_write (o := .dK []) (o' := .dK ((l.map (·.1)).zip vs)) (List.mem_singleton.mpr rfl) hp2 Wp trivial
      have WA : Wd F2 H2 ((fv ++ fp2) ++ [p]) := WP.perm (by simpa using (List.perm_append_comm (l₁ := [p]) (l₂ := fv ++ fp2)))
      have B := E3.beside WA
      have WB := WA.beside E3 W3
      have apart : ∀ a ∈ fv ++ fp2, a ∉ [p] ∧ ¬ F2 a := fun a m => ⟨fun z => by
        rw [List.mem_singleton] at z; subst z; exact np2 m, W2.ff a m⟩
      have rs3 := rs.keep E3 Wp fun a m => apart a (List.mem_append_left _ m)
      have e3 := R2.keep E3 Wp fun a m => apart a (List.mem_append_right _ m)
      have hlen : (l.map (·.1)).length = ds.length := by rw [List.length_map, itFs_len h1]
      have rr : R G F2 (upd H2 p (.dK ((l.map (·.1)).zip vs))) (.ref p) (.dic true ((l.map fun p => (Sum.inl p.1 : DKey)).zip ds)) (p :: fv) := by
        refine .dicO upd_same ?_ ?_
        · have := Rs.dic (ks := l.map (·.1)) rs3 hlen
          rw [List.map_map] at this
          exact this
        · rw [List.map_fst_zip (by rw [List.length_map, itFs_len h1]; exact Nat.le_refl _)]
          have : (l.map fun p => (Sum.inl p.1 : DKey)) = (l.map (·.1)).map Sum.inl := by rw [List.map_map]; rfl
          rw [this]
          exact List.pairwise_map.mpr (hn.imp fun h e => h (Sum.inl.inj e))
      have pq : ((fv ++ fp2) ++ [p]).Perm ((p :: fv) ++ fp2) := by
        refine List.perm_append_comm.trans ?_
        exact List.Perm.refl _
      -- from the heap at the entry
      have EF : Ext F H fp F2 (upd H2 p (.dK ((l.map (·.1)).zip vs))) ((p :: fv) ++ fp2) := by
        refine ⟨fun a z => E2.mono a z, fun a o ha hn => ?_, fun a m => ?_, fun a z => ?_, fun a ha => ?_⟩
        · have hap : a ≠ p := ne_of_none ha hp
          rw [upd_ne hap]
          exact E2.frame a o (by rw [upd_ne hap]; exact ha) hn
        · rcases List.mem_cons.mp m with rfl | m
          · exact .inr hp
          · refine (E2.old a m).elim .inl fun q => .inr ?_
            by_cases hap : a = p
            · subst hap; exact hp
            · rwa [upd_ne hap] at q
        · refine (E2.fz a z).elim .inl fun q => q.elim (fun q => .inr (.inl q)) fun q => .inr (.inr ?_)
          by_cases hap : a = p
          · subst hap; exact hp
          · rwa [upd_ne hap] at q
        · by_cases hap : a = p
          · subst hap; exact absurd hp ha
          · rw [upd_ne hap]
            exact E2.nn a (by rw [upd_ne hap]; exact ha)
      exact pp (.ref p) F2 _ (p :: fv) fp2 EF (WB.perm pq) e3 rr
  | err e ρ1 =>
    simp only [h1, Res.bind_err] at pp
    exact fun c d F' H' fp' E' W' R' x => pp c d F' H' fp' (E0.trans E') W' R' x
  | stuck => simp only [h1, Res.bind_stuck] at pp; exact pp
end
section
variable {X : Cx} {W : WX} {pos : Pos} {keys : List (Option Expr)} {values : List Expr} {l : List KF}
theorem dp_nil : PPs X pos [] [] (trsOf (gam X) W []) := pps_nil
theorem dp_cons {e v : Expr} {k : Key} {f : Env → Res D} (hk : PE X e (tC (kV k))) (hv : DE X W v f) (hr : PPs X pos keys values (trsOf (gam X) W l)) : PPs X pos (some e :: keys) (v :: values) (trsOf (gam X) W ((k, f) :: l)) := pps_cons hk hv.pe hr
theorem de_disp (h : PPs X pos keys values (trsOf (gam X) W l)) (hn : (l.map (·.1)).Nodup) (h15 : l.length ≤ 15) (hk : keys.length = l.length) (hall : keys.all (·.isSome) = true := by rfl) (hl : keys.length = values.length := by rfl) (h0 : keys ≠ [] := by simp) : DE X W (.Dict keys values pos) (dispE l) :=
  ⟨(pe_disp h hall hl h0 (by omega)).weak fun σ H Q z => wp_disp hn h15 z⟩
/-- {} -/
theorem qf_dnew : QF X (.Dict [] [] pos) (qK (.dic true [])) := ⟨pe_dnewK.weak fun σ H Q z => by
  obtain ⟨F, ρ, fp, w, e, d, hq, k⟩ := z
  cases hq
  exact fun p hp => k _ F _ [p] (ext_own hp) (wd_own w hp trivial) (.dicO (es := []) (fp := []) upd_same .nil List.nodup_nil)⟩
end

/-! ### ranges -/
def rng (lo : Int) (n : Nat) : List D := (List.range n).map fun i => .int (lo + (i : Nat))
theorem rng_at {lo : Int} {n i : Nat} {d : D} (h : (rng lo n)[i]? = some d) : i < n ∧ d = .int (lo + (i : Nat)) := by
  unfold rng at h
  rw [List.getElem?_map] at h
  obtain ⟨j, h1, h2⟩ := Option.map_eq_some_iff.mp h
  obtain ⟨h3, h4⟩ := List.getElem?_eq_some_iff.mp h1
  rw [List.getElem_range] at h4
  subst h4
  exact ⟨by simpa using h3, h2.symm⟩
theorem wlk_rng {G : Gam} {lo : Int} {n : Nat} (hl : n ≤ sizeLine) : Wlk G [] (rng lo n) (Itr lo n) (fun _ _ => True) where
  keep := fun _ _ _ _ _ _ _ _ _ => trivial
  go := fun F H i d _ h => (rng_at h).1
  yld := fun F H fp i d y H' _ w h hy => by
    obtain ⟨rfl, rfl⟩ := hy
    rw [(rng_at h).2]
    exact ⟨Ext.refl w.nil, w.nil, .int _⟩
  stop := fun F H _ => by show n ≤ _; simp [rng]
  len := by simpa [rng] using hl
def rngOf1 : List D → Option (List D)
  | [.int j] => if -(2 ^ 62) ≤ j ∧ j ≤ sizeLine then some (rng 0 j.toNat) else none
  | _ => none
def rngOf2 : List D → Option (List D)
  | [.int i, .int j] => if (-(2 ^ 62) ≤ i ∧ i < 2 ^ 62) ∧ (-(2 ^ 62) ≤ j ∧ j < 2 ^ 62) ∧ j - i ≤ sizeLine then some (rng i (j - i).toNat) else none
  | _ => none
def srcR (k : List D → Option (List D)) (f : Env → Res (List D)) : Env → Res (List D) := fun ρ => (f ρ).bind fun ds ρ' => match k ds with
  | some its => .ok its ρ'
  | none => .stuck
section
variable {X : Cx} {W : WX} {pos p : Pos} {tg a b : Expr}
theorem di_rng1 {f : Env → Res (List D)} (hg : Gl X "range") (hm : X.mg "range" = none) (ha : PA X [a] (WpA (gam X) W f)) (hs : starEach [a] X.env = [(false, eval a X.env)] := by rfl) : DI X W tg (.Call (.Name "range" p) [a] [] pos) (srcR rngOf1 f) := ⟨(pi_range1 hg hm ha hs).weak fun σ H Q q => by
  obtain ⟨F, ρ, fp, w, e, z⟩ := q
  refine ⟨F, ρ, fp, w, e, ?_⟩
  unfold srcR at z
  cases h1 : f ρ with
  | ok ds ρ1 =>
    simp only [h1, Res.bind_ok] at z
    intro vs F1 H1 fv fp1 E1 W1 R1 rs
    cases hk : rngOf1 ds with
    | none => simp only [hk] at z
    | some its =>
      simp only [hk] at z
      unfold rngOf1 at hk
      split at hk
      · rename_i j
        split at hk
        · rename_i hj
          cases hk
          obtain ⟨v, rfl, rv⟩ := rs.one_inv
          cases rv
          have sl : (sizeLine : Int) < 2 ^ 62 := by rw [sizeLine_eq]; decide
          exact ⟨j, rfl, hj.1, by omega, z _ _ F1 H1 [] fp1 (E1.less fun a m => List.mem_append_right _ m) W1.right R1 (wlk_rng (by omega)) trivial⟩
        · cases hk
      · cases hk
  | err e ρ1 => simp only [h1, Res.bind_err] at z; exact z
  | stuck => simp only [h1, Res.bind_stuck] at z⟩
theorem di_rng2 {f : Env → Res (List D)} (hg : Gl X "range") (hm : X.mg "range" = none) (ha : PA X [a, b] (WpA (gam X) W f)) (hs : starEach [a, b] X.env = [(false, eval a X.env), (false, eval b X.env)] := by rfl) (hs2 : starEach [b] X.env = [(false, eval b X.env)] := by rfl) :
    DI X W tg (.Call (.Name "range" p) [a, b] [] pos) (srcR rngOf2 f) := ⟨(pi_range2 hg hm ha hs hs2).weak fun σ H Q q => by
  obtain ⟨F, ρ, fp, w, e, z⟩ := q
  refine ⟨F, ρ, fp, w, e, ?_⟩
  unfold srcR at z
  cases h1 : f ρ with
  | ok ds ρ1 =>
    simp only [h1, Res.bind_ok] at z
    intro vs F1 H1 fv fp1 E1 W1 R1 rs
    cases hk : rngOf2 ds with
    | none => simp only [hk] at z
    | some its =>
      simp only [hk] at z
      unfold rngOf2 at hk
      split at hk
      · rename_i i j
        split at hk
        · rename_i hj
          cases hk
          cases rs with
          | cons ra t =>
            obtain ⟨v, rfl, rv⟩ := t.one_inv
            cases ra
            cases rv
            exact ⟨i, j, rfl, ⟨hj.1.1, hj.1.2, hj.2.1.1, hj.2.1.2⟩, z _ _ F1 H1 [] fp1 (E1.less fun a m => List.mem_append_right _ m) W1.right R1 (wlk_rng (by omega)) trivial⟩
        · cases hk
      · cases hk
  | err e ρ1 => simp only [h1, Res.bind_err] at z; exact z
  | stuck => simp only [h1, Res.bind_stuck] at z⟩
end
end DL

set_option Elab.async false
set_option linter.all false
set_option maxRecDepth 100000
set_option maxHeartbeats 4000000
/-! DL18: defs where no repr is under way (the guards are known). -/
namespace DL
open PySem PySem.Spec PyProof.Rows L2

/-- as FnOk, called where no guard stands -/
structure FnG (P : Program) (w : World) (K : PySem.W.Frag) (mg : Str → Option Value) (base : Heap) (k : Nat) (f : Addr) (fd : FuncData) (n : Nat) (ps : List Str) (sp : Sp) : Prop where
  pn : ps.length = n
  len : ∀ vs H Q E, sp vs H Q E → vs.length = n
  go : ∀ (A : Around) (outer : List PySem.Env) (s : Shared) (H : Hp) (args : Args) (us : List Value) (vs : List V) (Q : VK) (E : XK), Room k A → A.guards = some [] → Env0 P w K mg base A outer s H → BindsTo s fd args (ps.zip us) →
    Vals vs us → sp vs H Q E → codeAny (model P w) A (.call (.ref f) args) (CR (L2.CX P w) outer P w H s Q E) s
section
variable {P : Program} {w : World} {K : PySem.W.Frag} {mg : Str → Option Value} {base : Heap}
theorem FnG.of {k : Nat} {f : Addr} {fd : FuncData} {n : Nat} {ps : List Str} {sp : Sp} (F : FnOk P w K mg base (L2.CX P w) k f fd ps sp) (h : ps.length = n) : FnG P w K mg base k f fd n ps sp :=
  ⟨h, fun vs H Q E z => (F.len vs H Q E z).trans h, fun A outer s H args us vs Q E hr _ e b r z => F.run A outer s H args us vs Q E hr e b r z⟩
theorem FnG.up {j k : Nat} {f : Addr} {fd : FuncData} {n : Nat} {ps : List Str} {sp : Sp} (F : FnG P w K mg base j f fd n ps sp) (h : j ≤ k) : FnG P w K mg base k f fd n ps sp :=
  ⟨F.pn, F.len, fun A outer s H args us vs Q E hr => F.go A outer s H args us vs Q E (hr.mono h)⟩
/-- the inside of a def, at a call -/
abbrev inCx (P : Program) (w : World) (K : PySem.W.Frag) (mg : Str → Option Value) (base : Heap) (N : List Str) (qual : Str) (sc : Scope) (f : Addr) (cdv : Value) (A : Around) (outer : List PySem.Env) (s : Shared) (H : Hp) (E : XK) : Cx := cxOf (L2.CX P w) P w K mg base N qual sc f cdv A outer s H E
/-- a def from its body: the body is read wherever it may be entered -/
theorem fnG_of {x qual : Str} {st : Stmt} {f : Addr} {fd : FuncData} {N ps : List Str} {k : Nat} {sp : Sp} (Fn : Fun K x qual st f fd) (S : FnScope N ps (defScope st)) (hl : ∀ vs H Q E, sp vs H Q E → vs.length = ps.length)
    (hb : ∀ (cdv : Value) (A : Around) (outer : List PySem.Env) (s : Shared) (H : Hp) (vs : List V) (Q : VK) (E : XK), Room k (inCx P w K mg base N qual (defScope st) f cdv A outer s H E).A → A.guards = some [] → sp vs H Q E →
      ∃ t, PSs (inCx P w K mg base N qual (defScope st) f cdv A outer s H E) (defBody st) t ∧ t { nx := fun _ H' => Q .non H', rt := Q } (L2.start N vs) H) :
    FnG P w K mg base (k + 1) f fd ps.length ps sp := by
  obtain ⟨oc, od, kV, doc, pm, an, cdv, ct, osl, rfl, lk, hcd⟩ := Fn.ex
  refine ⟨rfl, hl, ?_⟩
  intro A outer s H args us vs Q E room gs en bd rv promise
  have number := hl vs H Q E promise
  have there : K.In s.heap := en.mod.kin.keeps fun b o q => (en.bs b o q).1
  have free : s.heap.NoLimit := en.mod.nolimit.keeps fun b o q => (en.bs b o q).1
  have kinds : ∀ p ∈ ps.zip us, (defScope st).names.lookup p.1 = some .local ∨ ((defScope st).names.lookup p.1 = some .cell ∧ ((cellsFrom (s.heap.objs.size + 1) (defScope st).names []).lookup p.1).isSome = true) := by
    intro p hp
    have hm : p.1 ∈ ps := (List.of_mem_zip (show (p.1, p.2) ∈ ps.zip us from hp)).1
    exact (S.par p.1 hm).imp id fun z => ⟨z, PySem.W.cellsFrom_some _ _ _ (.inl z)⟩
  refine codeAny_call_function room.depth (there f _ lk) rfl S.co S.gen rfl (PySem.W.codeRec_of there hcd) (bd _ _ _ _ ?_)
  refine wpAny_newFunctionEnv_cells S.kind kinds ?_
  intro env henv s1 call
  subst henv
  have inside := inv_start (CX := L2.CX P w) (E := E) S room.hd en number rv call
  obtain ⟨t, reads, fits⟩ := hb cdv A outer s H vs Q E (room.deeper _) gs promise
  refine ⟨free.keeps call.toInCall.keep, codeAny_func (wpAny_mono (reads.run [] s1 (L2.start N vs) H _ inside fits) ?_ fun _ _ z => z)⟩
  intro flow s2 out
  have back : ∀ {σ' : L2.St} {H' : Hp} {v : V} {u : Value}, Inv (inCx P w K mg base N qual (defScope st) f cdv A outer s H E) [] σ' H' s2 → RelV v u → Q v H' → CE outer P w H s Q u s2 := by
    intro σ' H' v u J r q
    exact ⟨v, H', J.os, J.bare, J.base, J.hok, r, q⟩
  match flow, out with
  | .ret u, out =>
    obtain ⟨v, σ', H', J, r, q⟩ := out
    exact back J r q
  | .next, out =>
    obtain ⟨σ', H', J, q⟩ := out
    exact back (v := V.non) (u := Value.none) J rfl q
  | .brk, out => exact out.choose_spec.choose_spec.2.elim
  | .cont, out => exact out.choose_spec.choose_spec.2.elim
/-- THE RULE for a def -/
theorem fnG_D {x qual : Str} {st : Stmt} {f : Addr} {fd : FuncData} {N ps : List Str} {k : Nat} {kp : List Nat} {s : Env → SR} (Fn : Fun K x qual st f fd) (S : FnScope N ps (defScope st)) (hkp : ∀ i ∈ kp, i < ps.length)
    (hb : ∀ (cdv : Value) (A : Around) (outer : List PySem.Env) (s0 : Shared) (H : Hp) (E : XK), Room k (inCx P w K mg base N qual (defScope st) f cdv A outer s0 H E).A → (inCx P w K mg base N qual (defScope st) f cdv A outer s0 H E).A.guards = some [] →
      Takes (inCx P w K mg base N qual (defScope st) f cdv A outer s0 H E) (fun c d _ H => E c d H) →
      DSs (inCx P w K mg base N qual (defScope st) f cdv A outer s0 H E) (fun c d _ H => E c d H) kp (defBody st) s) :
    FnG P w K mg base (k + 1) f fd ps.length ps (spN ⟨P, w, K, mg⟩ ps.length (runD N.length kp s)) := by
  refine fnG_of Fn S (fun vs H Q E h => h.1) (fun cdv A outer s' H vs Q E hr hg h => ?_)
  obtain ⟨hl, F, ds, fp, wd, rs, p⟩ := h
  refine ⟨_, (hb cdv A outer s' H E hr hg (takes_of rfl rfl rfl rfl)).ps, ?_⟩
  have hlen := rs.length
  have hst : L2.start N vs = vs.map some ++ List.replicate (N.length - ds.length) none := by unfold L2.start; rw [hlen]
  have e0 := envR_start (n := N.length - ds.length) rs
  rw [← hst] at e0
  refine ⟨F, _, fp, wd, e0, ?_⟩
  have keep : ∀ σ', Keep kp (L2.start N vs) σ' → ∀ i ∈ kp, 0 ≤ i → i < 0 + vs.length → σ'[i]? = some (vs[i - 0]?) := fun σ' hk i hi _ h2 => by
    rw [hk i hi, hst, List.getElem?_append_left (by simp; omega), List.getElem?_map, Nat.sub_zero]
    rw [List.getElem?_eq_getElem (by omega)]
    rfl
  unfold runD at p
  cases h1 : s (ds.map some ++ List.replicate (N.length - ds.length) none) with
  | nx ρ =>
    simp only [h1] at p
    intro σ' F' H' fp' E' W' R' k'
    obtain ⟨fo, fr, pm, ro, _⟩ := outs_sound (kp := kp) (k := 0) hlen R' (keep σ' k')
    have pW := W'.perm pm.symm
    exact p .non F' H' [] fo ((E'.perm pm.symm).less fun a m => List.mem_append_left _ m) pW.left .non ro
  | rt d ρ =>
    simp only [h1] at p
    intro v σ' F' H' fv fp' E' W' R' r' k'
    obtain ⟨fo, fr, pm, ro, _⟩ := outs_sound (kp := kp) (k := 0) hlen R' (keep σ' k')
    have pm' : (fv ++ fp').Perm ((fv ++ fo) ++ fr) := by
      rw [List.append_assoc]
      exact List.Perm.append_left fv pm.symm
    exact p v F' H' fv fo ((E'.perm pm').less fun a m => List.mem_append_left _ m) (W'.perm pm').left r' ro
  | bk ρ => simp only [h1] at p
  | ct ρ => simp only [h1] at p
  | err e ρ =>
    simp only [h1] at p
    intro c d σ' F' H' fp' E' W' R' x k'
    obtain ⟨fo, fr, pm, ro, _⟩ := outs_sound (kp := kp) (k := 0) hlen R' (keep σ' k')
    have pW := W'.perm pm.symm
    exact p c d F' H' fo ((E'.perm pm.symm).less fun a m => List.mem_append_left _ m) pW.left ro x
  | stuck => simp only [h1] at p
end
/-! ### calls -/
/-- a def that may be called by its name -/
structure Cal (P : Program) (w : World) (K : PySem.W.Frag) (mg : Str → Option Value) (base : Heap) (k : Nat) (x : Str) (n : Nat) (m : List D → FR) : Prop where
  ex : ∃ f fd ps, FnG P w K mg base k f fd n ps (spN ⟨P, w, K, mg⟩ n m) ∧ mg x = some (.ref f) ∧ PySem.W.keepIn K (.ref f) = true ∧ Binds K fd ps []
section
variable {X : Cx} {W : WX} {k n : Nat} {f : Addr} {fd : FuncData} {ps : List Str} {sp : Sp} {x : Str} {p pos : Pos} {e : Expr} {es : List Expr} {t : TA} {os : List Opd} {m : List D → FR}
theorem run_G {pins : List (Addr × Obj)} {σ : L2.St} {H : Hp} {s : Shared} {Q : VK} {us : List Value} {vs : List V} (F : FnG X.prog X.w X.K X.mg X.base k f fd n ps sp) (hr : Room k X.A) (hgd : X.A.guards = some []) (hb : Binds X.K fd ps []) (tk : Takes X W)
    (I : Inv X pins σ H s) (r : Vals vs us) (h : sp vs H Q (WE W σ)) : wpAny (model X.prog X.w) X.A (call (.ref f) us) (EP X pins σ Q) X.xe s := by
  have number : us.length = ps.length := by rw [← r.length, F.pn]; exact F.len _ _ _ _ h
  have bound := hb s us I.kIn (by rw [List.append_nil]; exact number)
  rw [List.append_nil] at bound
  refine wpAny_call (codeAny_mono (F.go X.A X.stack s H ⟨us, []⟩ us vs Q (WE W σ) hr hgd I.env0 bound r h) ?_)
  intro res s' out
  match res, out with
  | .error e, out => exact passAt tk σ pins H s e s' I out
  | .ok (.ret u), out => exact I.after out
  | .ok .next, out => exact out.elim
  | .ok .brk, out => exact out.elim
  | .ok .cont, out => exact out.elim
theorem pe_callG (F : FnG X.prog X.w X.K X.mg X.base k f fd n ps sp) (hr : Room k X.A) (hgd : X.A.guards = some []) (hg : Gl X x) (hm : X.mg x = some (.ref f)) (hk : PySem.W.keepIn X.K (.ref f) = true) (hb : Binds X.K fd ps []) (tk : Takes X W)
    (ha : PA X (e :: es) t) (hdb : (x == ("__debug__" : Str)) = false := by decide) (he : starEach (e :: es) X.env = (false, eval e X.env) :: starEach es X.env := by rfl) (hpl : (backTo pos (starEach es X.env)).any (·.1) = false := by rfl) :
    PE X (.Call (.Name x p) (e :: es) [] pos) (tCallS sp (WE W) t) := ⟨fun pins s σ H Q I h =>
  wpAny_Call_Name_kw (ld_glob I hg hm (PySem.W.callWith_K (h₀ := X.base) I.ok.mod.kin hk (thn (ha.run pos pins s σ H _ I h) fun us s1 z => by
    obtain ⟨vs, H1, I1, r, q⟩ := z
    exact ⟨I1.kIn, run_G F hr hgd hb tk I1 r q⟩) he hpl) hdb)⟩
/-- f(e, ..) -/
theorem de_callG (C : Cal X.prog X.w X.K X.mg X.base k x n m) (hr : Room k X.A) (hgd : X.A.guards = some []) (tk : Takes X W) (hg : Gl X x) (ha : PA X (e :: es) (teL (gam X) W os)) (hl : os.length = n := by rfl)
    (hdb : (x == ("__debug__" : Str)) = false := by decide) (he : starEach (e :: es) X.env = (false, eval e X.env) :: starEach es X.env := by rfl) (hpl : (backTo pos (starEach es X.env)).any (·.1) = false := by rfl) :
    DE X W (.Call (.Name x p) (e :: es) [] pos) (callD m os) := by
  obtain ⟨f, fd, ps, F, h1, h2, h3⟩ := C.ex
  exact ⟨(pe_callG F hr hgd hg h1 h2 h3 tk ha hdb he hpl).weak fun σ H Q q => teL_len os H _ _ (fun vs H1 l z => ⟨l.trans hl, z⟩) (callD_sound q)⟩
end
end DL

set_option Elab.async false
set_option linter.all false
set_option maxRecDepth 100000
set_option maxHeartbeats 4000000
/-! DL19: walking a list that stays owned by its name. -/
namespace DL
open PySem PySem.Spec PyProof.Rows L2

/-- the name has its value again -/
def backE (i : Nat) (d : D) (ρ : Env) : Env := match ρ[i]? with
  | some none => ρ.set i (some d)
  | _ => ρ
def restoreS (i : Nat) (d : D) : SR → SR
  | .nx ρ => .nx (backE i d ρ)
  | .rt v ρ => .rt v (backE i d ρ)
  | .err e ρ => .err e (backE i d ρ)
  | .bk ρ => .bk (backE i d ρ)
  | .ct ρ => .ct (backE i d ρ)
  | .stuck => .stuck
def restoreR {α : Type} (i : Nat) (d : D) : Res α → Res α
  | .ok a ρ => .ok a (backE i d ρ)
  | .err e ρ => .err e (backE i d ρ)
  | .stuck => .stuck
section
variable {G : Gam} {W : WX} {kp : List Nat} {F F1 F2 : Addr → Prop} {H H1 H2 : Hp} {fp fp1 fp2 fa g g1 g2 : List Addr} {σ σ1 : L2.St} {ρ : Env} {Q : VK} {i : Nat} {d : D} {y : V}
/-- behind what was done beside it a name's value is put back -/
theorem back_at {fp' : List Addr} {F' : Addr → Prop} {H' : Hp} (r : R G F H y d fa) (w : Wd F H (fa ++ fp)) (hs : σ1[i]? = some (some y)) (E : Ext F H fp F' H' fp') (W' : Wd F' H' fp') (e : EnvR G F' H' σ1 ρ fp1) (sub : ∀ a ∈ fp1, a ∈ fp') (nd : fp1.Nodup) :
    ∃ g, (∀ a ∈ g, a ∈ fa ++ fp1) ∧ g.Nodup ∧ EnvR G F' H' σ1 (backE i d ρ) g := by
  have apart : ∀ a ∈ fa, a ∉ fp' := fun a m z => ((w.beside E W')).apart a m z
  unfold backE
  split
  · rename_i hn
    have r' := r.keep E w.right w.apart2
    obtain ⟨g, p, e'⟩ := e.fill hs hn r'
    refine ⟨g, fun a m => p.mem_iff.mp m, p.nodup_iff.mpr (List.nodup_append.mpr ⟨w.left.nodup, nd, fun a h1 b h2 z => ?_⟩), e'⟩
    subst z
    exact apart a h1 (sub a h2)
  · exact ⟨fp1, fun a m => List.mem_append_right _ m, nd, e⟩
theorem post_restore {r : SR} {D' : Ends} (hr : R G F H y d fa) (w : Wd F H (fa ++ fp)) (hs : σ[i]? = some (some y)) (p : PostS W kp G F H (fa ++ fp) σ (restoreS i d r) D') : PostS W (i :: kp) G F H fp σ r D' := by
  have tail : ∀ {σ' : L2.St}, Keep (i :: kp) σ σ' → Keep kp σ σ' := fun k j hj => k j (List.mem_cons_of_mem _ hj)
  have whole : ∀ {F' : Addr → Prop} {H' : Hp} {fp' g : List Addr}, Ext F H fp F' H' fp' → Wd F' H' fp' → (∀ a ∈ g, a ∈ fa ++ fp') → g.Nodup → Ext F H (fa ++ fp) F' H' g ∧ Wd F' H' g := by
    intro F' H' fp' g E W' sub nd
    have B := E.beside w
    have WB := w.beside E W'
    exact ⟨B.less sub, nd, fun a m => WB.ff a (sub a m), fun a m => WB.own a (sub a m), WB.ft⟩
  cases r with
  | nx ρ' =>
    intro σ' F' H' fp' E' W' R' k'
    obtain ⟨g, sub, nd, e'⟩ := back_at (i := i) hr w ((k' i List.mem_cons_self).trans hs) E' W' R' (fun _ m => m) W'.nodup
    obtain ⟨E2, W2⟩ := whole E' W' sub nd
    exact p σ' F' H' g E2 W2 e' (tail k')
  | bk ρ' =>
    intro σ' F' H' fp' E' W' R' k'
    obtain ⟨g, sub, nd, e'⟩ := back_at (i := i) hr w ((k' i List.mem_cons_self).trans hs) E' W' R' (fun _ m => m) W'.nodup
    obtain ⟨E2, W2⟩ := whole E' W' sub nd
    exact p σ' F' H' g E2 W2 e' (tail k')
  | ct ρ' =>
    intro σ' F' H' fp' E' W' R' k'
    obtain ⟨g, sub, nd, e'⟩ := back_at (i := i) hr w ((k' i List.mem_cons_self).trans hs) E' W' R' (fun _ m => m) W'.nodup
    obtain ⟨E2, W2⟩ := whole E' W' sub nd
    exact p σ' F' H' g E2 W2 e' (tail k')
  | rt v ρ' =>
    intro x σ' F' H' fv fp' E' W' R' rv k'
    obtain ⟨g, sub, nd, e'⟩ := back_at (i := i) hr w ((k' i List.mem_cons_self).trans hs) E' W' R' (fun a m => List.mem_append_right _ m) W'.right.nodup
    have WB := w.beside E' W'
    have nd2 : (fv ++ g).Nodup := List.nodup_append.mpr ⟨W'.left.nodup, nd, fun a h1 b h2 z => by
      subst z
      rcases List.mem_append.mp (sub a h2) with z | z
      · exact WB.apart a z (List.mem_append_left _ h1)
      · exact W'.apart a h1 z⟩
    obtain ⟨E2, W2⟩ := whole E' W' (g := fv ++ g) (fun a m => by
      rcases List.mem_append.mp m with z | z
      · exact List.mem_append_right _ (List.mem_append_left _ z)
      · rcases List.mem_append.mp (sub a z) with z | z
        · exact List.mem_append_left _ z
        · exact List.mem_append_right _ (List.mem_append_right _ z)) nd2
    exact p x σ' F' H' fv g E2 W2 e' rv (tail k')
  | err e ρ' =>
    intro c x σ' F' H' fp' E' W' R' xr k'
    obtain ⟨g, sub, nd, e'⟩ := back_at (i := i) hr w ((k' i List.mem_cons_self).trans hs) E' W' R' (fun _ m => m) W'.nodup
    obtain ⟨E2, W2⟩ := whole E' W' sub nd
    exact p c x σ' F' H' g E2 W2 e' xr (tail k')
  | stuck => exact p
/-- an owned list that is walked -/
theorem wlk_own {a : Addr} {vs : List V} {ds : List D} (hl : ds.length ≤ sizeLine) : Wlk G [a] ds (Itl G.K a) (fun F H => H a = some (.lst vs) ∧ Rs G F H vs ds []) where
  keep := fun F H g F' H' g' ⟨s, r⟩ w E => ⟨E.stay s (w.apart a List.mem_cons_self) (fun z => z), r.keep E w.right fun _ m => nomatch m⟩
  go := fun F H i d ⟨s, r⟩ h => by
    obtain ⟨v, e, _⟩ := r.at0 h
    exact ⟨vs, v, SqL.of s, e⟩
  yld := fun F H fp i d y H' ⟨s, r⟩ w h hy => by
    obtain ⟨rfl, hy⟩ := hy
    obtain ⟨v, e, rv⟩ := r.at0 h
    have := hy vs (SqL.of s)
    rw [e] at this
    cases this
    exact ⟨Ext.refl w.nil, w.nil, rv⟩
  stop := fun F H ⟨s, r⟩ => ⟨vs, SqL.of s, by rw [r.length]; exact Nat.le_refl _⟩
  len := hl
/-- walking a value, from its own rule -/
theorem wpI_val {f : Env → Res D} {Q : It → Hp → Prop} (q : WpI G W (srcV f) σ H Q) : WpE G W f σ H fun x H1 => rAnyI G.K x H1 Q := by
  obtain ⟨F, ρ, fp, w, e, p⟩ := q
  refine ⟨F, ρ, fp, w, e, ?_⟩
  unfold srcV at p
  cases h1 : f ρ with
  | ok d ρ1 =>
    simp only [h1, Res.bind_ok] at p
    intro v F1 H1 fv fp1 E1 W1 R1 r1
    cases h2 : iterD d with
    | none => simp only [h2] at p
    | some its =>
      simp only [h2] at p
      have r2 := r1.freeze (g := fv) fun _ m => m
      refine walk_value (G := G) r2 h2 W1.freeze fun J S F' H' E2 W2 eK wk s => ?_
      exact p J S F' H' [] fp1 ((E1.trans (Ext.freeze W1)).trans E2) W2 (eK σ ρ1 (R1.mono fun _ z => Or.inl z)) wk s
  | err e ρ1 => simp only [h1, Res.bind_err] at p; exact p
  | stuck => simp only [h1, Res.bind_stuck] at p
theorem wpE_var {i : Nat} (h : WpE G W (qE (sol (qN i))) σ H Q) : tVar i σ H Q := by
  obtain ⟨F, ρ, fp, w, e, d, hq, k⟩ := tQR_F (tQF_E h)
  unfold qN at hq
  split at hq
  · rename_i d' hd
    cases hq
    obtain ⟨v, f1, f2, e1, r, pm, r2⟩ := e.get hd
    exact ⟨v, e1, k v F H [] f1 (Ext.refl w.nil) w e r fun a m => by simpa using pm.mem_iff.mpr (List.mem_append_left _ m)⟩
  · cases hq
/-- what is walked: the name's own list, or a shared value -/
def srcN (i : Nat) : Env → Res (List D) := srcV (qE (sol (qN i)))
def forBS (i : Nat) (k : D → Env → Option Env) (b : Env → SR) : Env → SR := fun ρ => match ρ[i]? with
  | some (some (.lst true xs)) => if solids xs = true then restoreS i (.lst true xs) (forL k b xs (ρ.set i none)) else .stuck
  | _ => forS (srcN i) k b ρ
def compBE (i : Nat) (k : D → Env → Option Env) (t : Env → Res Bool) (f : Env → Res D) (vs : List Nat) : Env → Res D := fun ρ => match ρ[i]? with
  | some (some (.lst true xs)) => if solids xs = true then restoreR i (.lst true xs) ((compL k t f vs xs (wipeE (ρ.set i none) vs)).nox.bind fun ys ρ' => .ok (.lst true ys) (restE (ρ.set i none) ρ' vs)) else .stuck
  | _ => compE (srcN i) k t f vs ρ
theorem wp_compB {vs : List Nat} {tg : TG} {k : D → Env → Option Env} {tf : Env → Res Bool} {f : Env → Res D} (hk : ∀ kp, (∀ v ∈ vs, v ∉ kp) → TgS G kp tg k) (h : WpE G W (compBE i k tf f vs) σ H Q) : tLc (fun σ H R => tVar i σ H fun x H1 => rAnyI G.K x H1 R) tg (WpT G W0 tf) (WpE G W0 f) vs σ H Q := by
  obtain ⟨F, ρ, fp, w, e, p⟩ := h
  unfold compBE at p
  split at p
  · rename_i xs hi
    split at p
    · rename_i hs
      obtain ⟨v, f1, f2, e1, r, pm, e2⟩ := e.get hi
      have w' := w.perm pm
      cases r with
      | @lstO a ws _ fx ha t =>
        cases Rs.solid0 t hs
        refine ⟨_, e1, .inl ⟨a, ws, rfl, SqL.of ha, fun hz => ?_⟩⟩
        intro Dn hD
        cases h2 : compL k tf f vs xs (wipeE (ρ.set i none) vs) with
        | ok ys ρ' =>
          simp only [h2, Res.nox, Res.bind_ok, restoreR] at p
          refine lc_walk (wlk_own (a := a) (vs := ws) (by rw [← t.length]; exact hz)) hk hD ⟨ha, t⟩ w' e2 h2 fun v F' H' fv fp' E' W' R' r' => ?_
          obtain ⟨g, sub, nd, e'⟩ := back_at (i := i) (.lstO (fp := []) ha t) w' e1 E' W' R' (fun a m => List.mem_append_right _ m) W'.right.nodup
          have WB := w'.beside E' W'
          have B := E'.beside w'
          have inall : ∀ b ∈ fv ++ g, b ∈ [a] ++ (fv ++ fp') := fun b m => by
            rcases List.mem_append.mp m with z | z
            · exact List.mem_append_right _ (List.mem_append_left _ z)
            · rcases List.mem_append.mp (sub b z) with z | z
              · exact List.mem_append_left _ z
              · exact List.mem_append_right _ (List.mem_append_right _ z)
          have nd2 : (fv ++ g).Nodup := List.nodup_append.mpr ⟨W'.left.nodup, nd, fun b h1 c h3 z => by
            subst z
            rcases List.mem_append.mp (sub b h3) with z | z
            · exact WB.apart b z (List.mem_append_left _ h1)
            · exact W'.apart b h1 z⟩
          exact p v F' H' fv g ((B.perm0 pm.symm).less inall) ⟨nd2, fun b m => WB.ff b (inall b m), fun b m => WB.own b (inall b m), WB.ft⟩ e' r'
        | err _ _ => simp only [h2, Res.nox, Res.bind_stuck, restoreR] at p; exact p.elim
        | stuck => simp only [h2, Res.nox, Res.bind_stuck, restoreR] at p; exact p.elim
    · exact p.elim
  · have z : tLc (WpI G W (srcN i)) tg (WpT G W0 tf) (WpE G W0 f) vs σ H Q := wp_comp hk ⟨F, ρ, fp, w, e, p⟩
    exact wpE_var (wpI_val z)
end
section
variable {X : Cx} {W : WX} {kp : List Nat} {tg iter elt e : Expr} {ifs : List Expr} {body : List Stmt} {pos : Pos} {t g : TG} {k : D → Env → Option Env} {b : Env → SR} {i : Nat} {scope : Scope} {own : List (Str × Nat)} {tf : Env → Res Bool} {f : Env → Res D}
/-- for target in name: body; the name keeps its list -/
theorem ds_forB (hp : PassesOwn (model X.prog X.w) X.A X.env X.xe) (hc : X.calm = true) (hi : PE X iter (tVar i)) (hg : PG X tg t) (hk : TgS (gam X) (i :: kp) t k) (hb : DSs X W (i :: kp) body b) (hk' : TgS (gam X) kp t k) (hb' : DSs X W kp body b)
    (hs : ∀ x, foldedSetIterable iter X.env x = pure x := by intro _; rfl) : DS X W kp (.For tg iter body [] pos) (forBS i k b) := ⟨⟨fun pins s σ H D I q => by
  obtain ⟨F, ρ, fp, w, e, p⟩ := q
  unfold forBS at p
  split at p
  · rename_i xs hix
    split at p
    · rename_i hsol
      refine (ps_for hp hc (pi_of hi it_any) hg hb.ps hs).run pins s σ H D I ?_
      obtain ⟨v, f1, f2, e1, r, pm, e2⟩ := e.get hix
      have w' := w.perm pm
      cases r with
      | @lstO a ws _ fx ha tt =>
        cases Rs.solid0 tt hsol
        refine ⟨_, e1, .inl ⟨a, ws, rfl, SqL.of ha, fun hz => ?_⟩⟩
        have p2 : PostS W kp (gam X) F H ([a] ++ f2) σ (restoreS i (.lst true xs) (forL k b xs (ρ.set i none))) D := p.behind ((Ext.refl w).perm pm) Keep.refl
        have p3 := post_restore (.lstO (fp := []) ha tt) w' e1 p2
        exact for_walk (wlk_own (a := a) (vs := ws) (by rw [← tt.length]; exact hz)) hk ⟨ha, tt⟩ w' e2 p3
    · exact p.elim
  · refine (ps_for hp hc (pi_of hi it_any) hg hb'.ps hs).run pins s σ H D I ?_
    unfold tFor
    refine wpE_var (G := gam X) (W := W) (wpI_val (G := gam X) ?_)
    refine ⟨F, ρ, fp, w, e, ?_⟩
    unfold forS at p
    cases h1 : srcN i ρ with
    | ok its ρ1 =>
      simp only [h1, bindS] at p
      unfold srcN at h1
      simp only [h1]
      intro J S F1 H1 fa fp1 E1 W1 R1 wk s
      exact for_walk wk hk' s W1 R1 (p.behind (E1.less fun a m => List.mem_append_right _ m) Keep.refl)
    | err e ρ1 => simp only [h1, bindS] at p; unfold srcN at h1; simp only [h1]; exact fun c d F' H' fp' E' W' R' x => p c d σ F' H' fp' E' W' R' x Keep.refl
    | stuck => simp only [h1, bindS] at p; unfold srcN at h1; simp only [h1]; exact p⟩⟩
/-- [elt for target in name if ..]; the name keeps its list -/
theorem de_lcB (hc : X.calm = true) (hN : X.N.Nodup) (hi : PE X iter (tVar i)) (ok : BlkOk X.N X.env.scope scope own)
    (hg : ∀ (s : Shared) (H : Hp) (C : Addr) (cl : List (Str × Addr)) (fp : List Addr), PG (X.blk s H scope (compEnvC scope cl C X.env) fp) tg g) (hk : ∀ kp, (∀ v ∈ own.map (·.2), v ∉ kp) → TgS (gam X) kp g k)
    (ht : ∀ (s : Shared) (H : Hp) (C : Addr) (cl : List (Str × Addr)) (fp : List Addr), PTs (X.blk s H scope (compEnvC scope cl C X.env) fp) ifs (WpT (gam X) W0 tf))
    (he : ∀ (s : Shared) (H : Hp) (C : Addr) (cl : List (Str × Addr)) (fp : List Addr), DE (X.blk s H scope (compEnvC scope cl C X.env) fp) W0 elt f) (hs : ∀ x, foldedSetIterable iter X.env x = pure x := by intro _; rfl) :
    DE X W (.ListComp elt [⟨tg, iter, ifs, 0⟩] scope pos) (compBE i k tf f (own.map (·.2))) :=
  ⟨(pe_lc hc hN (pi_of hi it_any) ok hg ht (fun s H C cl fp => (he s H C cl fp).pe) hs).weak fun σ H Q q => wp_compB hk q⟩
end
end DL

set_option Elab.async false
set_option linter.all false
set_option maxRecDepth 100000
set_option maxHeartbeats 4000000
/-! DL20: a place's value, shared from now on. -/
namespace DL
open PySem PySem.Spec PyProof.Rows L2

def cpP (i : Nat) (st : Env → Option (List Key)) : Env → Res D := fun ρ => match st ρ, ρ[i]? with
  | some ss, some (some d0) => match getP d0 ss with
    | some d => .ok (frz d) (ρ.set i (some (putP d0 ss (frz d))))
    | none => .stuck
  | _, _ => .stuck
section
variable {G : Gam} {W : WX} {F F1 F2 : Addr → Prop} {H H1 H2 : Hp} {fp fp1 fp2 g g1 g2 : List Addr} {σ : L2.St} {ρ : Env} {Q : VK}
theorem wp_cpP {i : Nat} {st : Env → Option (List Key)} (h : WpE G W (cpP i st) σ H Q) : tPL G i st σ H Q := by
  obtain ⟨F, ρ, fp, w, e, p⟩ := h
  unfold cpP at p
  split at p
  · rename_i ss d0 h1 h2
    split at p
    · rename_i d hg
      refine ⟨F, ρ, fp, w, e, ss, d0, d, h1, h2, hg, fun x y F1 H1 fv E1 W1 e1 hx at1 => ?_⟩
      obtain ⟨f, rest, r, pm, k⟩ := e1.focus h2 hg hx at1
      have w' : Wd F1 H1 (f ++ rest) := W1.right.perm pm
      have wf : Wd F1 H1 (f ++ []) := by rw [List.append_nil]; exact w'.left
      have Ef := Ext.freeze wf
      rw [List.append_nil] at Ef
      have rf := r.freeze (g := f) fun _ m => m
      have ap : ∀ a ∈ rest, a ∉ f ∧ ¬ F1 a := fun a m => ⟨fun z => w'.apart a z m, w'.right.ff a m⟩
      obtain ⟨g, pg, e2⟩ := k (FF F1 f) H1 f [] [] (frz d) Ef w'.left ap rf
      have E0 : Ext F H fp F1 H1 (f ++ rest) := ((fresh_beside E1 W1.left w e).1.less fun a m => List.mem_append_right _ m).perm pm
      have E3 := (E0.trans (Ext.freeze w')).perm (pg.trans (by simp)).symm
      exact p y (FF F1 f) H1 [] g E3 (w'.freeze.perm (pg.trans (by simp)).symm) e2 rf
    · exact p.elim
  · exact p.elim
end
theorem de_cpP {X : Cx} {W : WX} {e : Expr} {i : Nat} {st : Env → Option (List Key)} (h : PL X e i st) : DE X W e (cpP i st) := ⟨h.pe.weak fun σ H Q z => wp_cpP z⟩
end DL

set_option Elab.async false
set_option linter.all false
set_option maxRecDepth 100000
set_option maxHeartbeats 4000000
/-! DL21: sorted lists of data; tuples of any length, the empty one too. -/
namespace DL
open PySem PySem.Spec PyProof.Rows L2 PySem.W PySem.SeqAt

section
variable {prog : Program} {w : World} {A : Around} {E : Value → Shared → Prop} {s : Shared}
theorem call_tup_lt {Q : Value → Shared → Prop} {l b : Addr} {items items2 : Array Value} {e r : Nat → Bool} (hl : s.heap.IsTuple l items) (hb : s.heap.IsTuple b items2)
    (he : ∀ j (h1 : j < items.size) (h2 : j < items2.size), EqAt A.in1 s items[j] items2[j] (e j)) (hr : ∀ j (h1 : j < items.size) (h2 : j < items2.size), e j = false → RcLt A.in1 s items[j] items2[j] (r j))
    (h : Q (.bool (firstLt e r (decide (items.size < items2.size)) (List.range (min items.size items2.size)))) s) : wpAny (model prog w) A (call (.builtin "tuple.__lt__") [.ref l, .ref b]) Q E s := by
  obtain ⟨⟨c1, d1, t1, s1⟩, o1, k1, n1, e1⟩ := id hl
  obtain ⟨⟨c2, d2, t2, s2⟩, o2, k2, n2, e2⟩ := id hb
  simp only at k1 e1 k2 e2
  subst k1 e1 k2 e2
  exact call_meets F.slot_tuple_lt ⟨_, o1, rfl⟩ F.entry_tuple_lt (F.args_tuple_lt_2 _ _) (tuple_ltAt l b items items2 n1 n2 d1 d2 s1 s2 e r) ⟨o1, o2, he, hr, h⟩
/-- two tuples, as sorting compares them when the keys are of one type -/
theorem one_tups {f : Bool} {xs ys : List PyData} {a b : Value} {as bs : List Addr} {Q : Bool → Shared → Prop} (ra : Reads s.heap a (.tuple xs) as) (rb : Reads s.heap b (.tuple ys) bs) (h : alike (.tuple xs) (.tuple ys) = true)
    (hu : A.units + min (PyData.tuple xs).depth (PyData.tuple ys).depth < cLine) (hq : Q (dataLt (.tuple xs) (.tuple ys)) s) : wpAny (model prog w) A (oneLt' f a b) Q E s := by
  cases f with
  | false => exact oneLt_alike (fun z => nomatch z) ra rb h (fun z => nomatch z) hu hq
  | true =>
    have hal : alikeAll xs ys = true := by simpa [alike] using h
    cases ra with
    | @tuple l o vs n _ _ h1 h2 h3 h4 =>
      cases rb with
      | @tuple l' o' vs' n' _ _ k1 k2 k3 k4 =>
        have n1 : vs.size = xs.length := by simpa using ReadsAll.length _ _ _ h4
        have n2 : vs'.size = ys.length := by simpa using ReadsAll.length _ _ _ k4
        rw [dataLt_tuple, ← firstLt_toks xs ys hal, ← n1, ← n2] at hq
        rw [oneLt'_eq]
        simp only [if_true]
        refine wpAny_bind (wpAny_cRoomFor (room_here hu) ?_)
        refine wpAny_bind (wpAny_callSpecialIfBound?_slot (T := "tuple") ⟨_, h1, h2⟩ F.slot_tuple_lt (call_tup_lt (e := pairEq xs ys) (r := fun j => dataLt (xs.getD j .none) (ys.getD j .none)) ⟨_, h1, h2, _, h3⟩ ⟨_, k1, k2, _, k3⟩ (fun j j1 j2 => ?_) (fun j j1 j2 hj => ?_) ?_))
        · have := eqAt_alikeAll xs ys A.in1 s vs.toList vs'.toList _ _ h4 k4 hal (room_in hu) j (by simpa using j1) (by simpa using j2)
          simpa using this
        · have := rcLt_alikeAll xs ys A.in1 s vs.toList vs'.toList _ _ h4 k4 hal (room_in hu) j (by simpa using j1) (by simpa using j2) hj
          simpa using this
        · exact wpAny_truthy_bool hq
/-- the first items, where there are any -/
theorem firsts_tups : ∀ (vs : List Value) (ds : List PyData) {Q : List (Option Value) → Shared → Prop}, EachIs (fun v d => ∃ as, Reads s.heap v d as) vs ds → (∀ d ∈ ds, ∃ xs, d = .tuple xs) →
    (∀ fs : List (Option Value), fs.length = vs.length → (∀ (i : Nat) (xs : List PyData), ds[i]? = some (PyData.tuple xs) → (fs[i]?.map (fun o : Option Value => o.isSome)) = some (!xs.isEmpty)) → Q fs s) → wpAny (model prog w) A (vs.mapM firstOfTuple') Q E s
  | [], _, Q, .nil, _, h => by rw [List.mapM_nil]; exact wpAny_pure (h [] rfl fun i xs e => by simp at e)
  | v :: vs, d :: ds, Q, .cons ⟨as, r⟩ t, ht, h => by
    obtain ⟨xs, rfl⟩ := ht d List.mem_cons_self
    cases r with
    | @tuple a o ws n _ _ ho hc hd hr =>
      rw [List.mapM_cons]
      refine wpAny_bind ?_
      rw [kas_first_eq]
      refine wpAny_bind (Looks.here (show Looks (model prog w) s.heap (typeOf (.ref a)) o.cls from (Looks.ld ho).andThen .now) ?_)
      rw [hc, if_neg (by first | decide | simp)]
      refine wpAny_bind (listItems_at ho hd (wpAny_pure ?_))
      refine wpAny_bind (firsts_tups vs ds t (fun d m => ht d (List.mem_cons_of_mem _ m)) fun fs hl hf => wpAny_pure (h _ (by simp [hl]) fun i ys e => ?_))
      have hlen : ws.size = xs.length := by simpa using ReadsAll.length _ _ _ hr
      cases i with
      | zero =>
        simp at e
        subst e
        have e2 : ws[0]?.isSome = !xs.isEmpty := by
          cases xs with
          | nil => simp at hlen; simp [hlen]
          | cons x xs => simp at hlen; simp [hlen]
        simp [e2]
      | succ i => simpa using hf i ys (by simpa using e)
/-- all are of one type -/
theorem oneType_tups {vs : List Value} {Q : Option Value → Shared → Prop} (h0 : 0 < vs.length) (hT : ∀ v ∈ vs, Looks (model prog w) s.heap (typeOf v) (.type "tuple")) (h : Q (some (.type "tuple")) s) : wpAny (model prog w) A (oneTypeOnly' vs.toArray) Q E s := by
  obtain ⟨v, rest, rfl⟩ : ∃ v rest, vs = v :: rest := by
    match vs, h0 with
    | v :: rest, _ => exact ⟨v, rest, rfl⟩
  rw [oneTypeOnly'_eq, List.mapM_toArray, map_eq_pure_bind]
  refine wpAny_bind (wpAny_bind (kas_mapM (r := .type "tuple") _ (fun v hv Q' hq => (hT v hv).here hq) (wpAny_pure ?_)))
  have hall : ((List.map (fun _ => Value.type "tuple") (v :: rest)).toArray.all fun x => x == Value.type "tuple") = true := by
    simp only [List.all_toArray, List.all_map, List.all_eq_true]
    intro _ _
    exact beq_self_eq_true _
  have h1 : (List.map (fun _ => Value.type "tuple") (v :: rest)).toArray[0]? = some (Value.type "tuple") := by simp
  rw [h1]
  simp only [hall, if_true]
  exact wpAny_pure h
/-- tuples of any length can be sorted -/
theorem sorts_tups {vs : List Value} {ds : List PyData} (e : EachIs (fun v d => ∃ as, Reads s.heap v d as) vs ds) (hal : AllAlike ds) (ht : ∀ d ∈ ds, ∃ xs, d = .tuple xs) (hu : ∀ d, d ∈ ds → A.units + d.depth < cLine) : SortsAt prog w A s (dataKind s.heap ds) vs := by
  by_cases hne : ∀ d ∈ ds, ∃ x r, d = .tuple (x :: r)
  · exact SortsAt.data e hal (.inl hne) hu
  have cmp : ∀ kd, (∀ x y, keyLt' kd x y = oneLt' true x y) ∨ (∀ x y, keyLt' kd x y = oneLt' false x y) → H.LtAt prog w A s (dataKind s.heap ds) kd := by
    intro kd hk E x y a b Q ha hb hq
    obtain ⟨d, as, hd, ra, rfl⟩ := dataKind_inv ha
    obtain ⟨d', as', hd', rb, rfl⟩ := dataKind_inv hb
    have hdd := hal d hd d' hd'
    have hroom : A.units + min d.depth d'.depth < cLine := Nat.lt_of_le_of_lt (Nat.add_le_add_left (Nat.min_le_left _ _) _) (hu d hd)
    obtain ⟨xs, rfl⟩ := ht d hd
    obtain ⟨ys, rfl⟩ := ht d' hd'
    rcases hk with hk | hk
    · rw [hk]; exact one_tups ra rb hdd hroom hq
    · rw [hk]; exact one_tups ra rb hdd hroom hq
  have looks : ∀ v ∈ vs, Looks (model prog w) s.heap (typeOf v) (.type "tuple") := by
    intro v hv
    obtain ⟨d, hd, as, r⟩ := e.left v hv
    obtain ⟨xs, rfl⟩ := ht d hd
    exact looks_reads r
  have hlen := e.length
  have some_empty : ∃ i : Nat, ds[i]? = some (.tuple []) := by
    refine Classical.byContradiction fun z => hne fun d hd => ?_
    obtain ⟨xs, rfl⟩ := ht d hd
    cases xs with
    | nil =>
      obtain ⟨i, hi⟩ := List.getElem?_of_mem hd
      exact (z ⟨i, hi⟩).elim
    | cons x r => exact ⟨x, r, rfl⟩
  obtain ⟨i0, hi0⟩ := some_empty
  refine ⟨fun v hv => ?_, ?_⟩
  · obtain ⟨d, hd, as, r⟩ := e.left v hv
    exact ⟨_, dataKind_some hal hd r⟩
  · -- the first tuple is empty or not
    cases h0 : ds[0]? with
    | none =>
      have : ds = [] := by
        cases ds with
        | nil => rfl
        | cons _ _ => simp at h0
      subst this
      simp at hi0
    | some d0 =>
      obtain ⟨xs0, rfl⟩ := ht d0 (List.mem_of_getElem? h0)
      by_cases hx : xs0 = []
      · refine ⟨oneType', cmp _ (.inl fun x y => keyLt'_oneType x y), fun h2 E Q hq => ?_⟩
        rw [keyKind'_eq, List.mapM_toArray, map_eq_pure_bind]
        refine wpAny_bind (wpAny_bind (firsts_tups vs ds e ht fun fs hl hf => wpAny_pure ?_))
        have hf0 := hf 0 xs0 h0
        have hfi := hf i0 [] hi0
        have n1 : ¬ (fs.toArray.all (·.isSome)) = true := by
          intro z
          rw [List.all_toArray, List.all_eq_true] at z
          obtain ⟨o, ho, hs⟩ := Option.map_eq_some_iff.mp hfi
          have := z o (List.mem_of_getElem? ho)
          rw [this] at hs
          cases hs
        have n2 : ¬ ((fs.toArray[0]?.bind id).isSome) = true := by
          subst hx
          obtain ⟨o, ho, hs⟩ := Option.map_eq_some_iff.mp hf0
          cases o with
          | none => simp [ho]
          | some _ => cases hs
        rw [if_neg n1, if_neg n2]
        exact wpAny_bind (oneType_tups (by omega) looks (wpAny_pure hq))
      · refine ⟨general', cmp _ (.inr fun x y => rfl), fun h2 E Q hq => ?_⟩
        rw [keyKind'_eq, List.mapM_toArray, map_eq_pure_bind]
        refine wpAny_bind (wpAny_bind (firsts_tups vs ds e ht fun fs hl hf => wpAny_pure ?_))
        have hf0 := hf 0 xs0 h0
        have hfi := hf i0 [] hi0
        have n1 : ¬ (fs.toArray.all (·.isSome)) = true := by
          intro z
          rw [List.all_toArray, List.all_eq_true] at z
          obtain ⟨o, ho, hs⟩ := Option.map_eq_some_iff.mp hfi
          have := z o (List.mem_of_getElem? ho)
          rw [this] at hs
          cases hs
        have n2 : ((fs.toArray[0]?.bind id).isSome) = true := by
          obtain ⟨o, ho, hs⟩ := Option.map_eq_some_iff.mp hf0
          cases o with
          | none =>
            cases xs0 with
            | nil => exact absurd rfl hx
            | cons _ _ => cases hs
          | some v => simp [ho]
        rw [if_neg n1, if_pos n2]
        exact wpAny_pure hq
end

/-! ### sorted by data -/
/-- a datum, .none for what is none -/
def pyOf (d : D) : PyData := (toPy d).getD .none
/-- sorted data -/
noncomputable def sortD (xs : List D) : List D := xs.mergeSort (dataLe false pyOf)
def alikeL (ys : List PyData) : Bool := ys.all fun a => ys.all fun b => alike a b
def isTupP : PyData → Bool
  | .tuple _ => true
  | _ => false
def isNonP : PyData → Bool
  | .none => true
  | _ => false
/-- what can be sorted -/
def canSort (xs : List D) : Bool := match toPys xs with
  | some ys => alikeL ys && (ys.all isTupP || ys.all fun d => !isTupP d && !isNonP d) && decide (∀ d ∈ ys, d.depth ≤ 60)
  | none => false
theorem toPys_map : ∀ {xs : List D} {ys : List PyData}, toPys xs = some ys → ys = xs.map pyOf
  | [], ys, h => by cases h; rfl
  | x :: xs, ys, h => by
    simp only [toPys] at h
    split at h
    · rename_i h1 h2
      cases h
      simp [pyOf, h1, toPys_map h2]
    · cases h
theorem each_pairs {G : Gam} {F : Addr → Prop} {H : Hp} : ∀ {us : List Value} {xs : List V} {ds : List D}, Rs G F H xs ds [] → Vals xs us → EachIs (fun (u : Value) (p : V × D) => RelV p.1 u ∧ R G F H p.1 p.2 []) us (xs.zip ds)
  | _, [], _, r, .nil => by cases r; exact .nil
  | _, x :: xs, _, r, .cons h t => by
    generalize e : ([] : List Addr) = g at r
    cases r with
    | cons r1 r2 =>
      obtain ⟨e1, e2⟩ := List.append_eq_nil_iff.mp e.symm
      subst e1 e2
      exact .cons ⟨h, r1⟩ (each_pairs r2 t)
theorem each_out {G : Gam} {F : Addr → Prop} {H : Hp} : ∀ {us : List Value} {ps : List (V × D)}, EachIs (fun (u : Value) (p : V × D) => RelV p.1 u ∧ R G F H p.1 p.2 []) us ps → Vals (ps.map (·.1)) us ∧ Rs G F H (ps.map (·.1)) (ps.map (·.2)) []
  | _, _, .nil => ⟨.nil, .nil⟩
  | _, _, .cons h t => by
    obtain ⟨h1, h2⟩ := each_out t
    exact ⟨.cons h.1 h1, .cons (f1 := []) (f2 := []) h.2 h2⟩
/-- what comes of collecting a value: the items of a list, a tuple, the plain keys of a dict -/
def ColV (K : PySem.W.Frag) (H : Hp) (x : V) (xs : List V) : Prop := ∃ a, x = .ref a ∧ (SqL K H a xs ∨ SqT K H a xs ∨ ∃ kvs : List (Key × V), Rd H a (.dK kvs) ∧ xs = kvs.map fun p => kV p.1)
theorem colV_len {X : Cx} {pins : List (Addr × Obj)} {σ : L2.St} {H : Hp} {s : Shared} {x : V} {xs : List V} (I : L2.Inv X pins σ H s) (c : ColV X.K H x xs) : xs.length ≤ sizeLine := by
  obtain ⟨a, rfl, c | c | ⟨kvs, c, rfl⟩⟩ := c
  · exact (I.list c).choose_spec.2.2
  · exact (I.tuple c).choose_spec.2.2
  · rw [List.length_map]; exact (dk_rd I.hok c).1
theorem collects {X : Cx} {pins : List (Addr × Obj)} {σ : L2.St} {H : Hp} {s : Shared} {x : V} {u : Value} {xs : List V} (hc : X.calm = true) (I : L2.Inv X pins σ H s) (rx : L2.RelV x u) (c : ColV X.K H x xs) {E : Value → Shared → Prop} {Q : List Value → Shared → Prop}
    (h : ∀ us h' tk, (∀ b o, s.heap.get? b = some o → h'.get? b = some o) → Vals xs us → Q us { s with heap := h', toks := tk }) : wpAny (model X.prog X.w) X.A.in1 (collect u) Q E s := by
  have hz := colV_len I c
  obtain ⟨a, rfl, c⟩ := c
  cases rx
  rcases c with c | c | ⟨kvs, c, rfl⟩
  · obtain ⟨its, rv, ⟨o, n, ho, hcl, _, hd⟩, _⟩ := I.list c
    exact wpAny_collect_seq a (.inl rfl) ho hcl hd (fun h' k => h _ h' s.toks k (by simpa using rv)) (by rw [List.size_toArray, ← rv.length]; exact hz)
  · obtain ⟨its, rv, ⟨o, ho, hcl, n, hd⟩, _⟩ := I.tuple c
    exact wpAny_collect_seq a (.inr rfl) ho hcl hd (fun h' k => h _ h' s.toks k (by simpa using rv)) (by rw [List.size_toArray, ← rv.length]; exact hz)
  · obtain ⟨z, lo, vs, rel, dd⟩ := dk_rd I.hok c
    obtain ⟨ep, hat⟩ := dd.dictAt
    have hl : kvs.length = vs.length := Paired.length rel
    refine PySem.W.kdu_collect (A := X.A.in1) (PySem.W.kdl_dict (knd := mixKind X.prog X.w) (kvs := vs) (ep := ep) lo) (I.ok.hd hc) hat (by rw [← hl]; exact z) fun h' tk acc hk hacc => ?_
    have v := keys_at (us := acc.toList) (vs := vs) (by rw [Array.length_toList]; exact hacc.1) fun j v e => by
      obtain ⟨k, x, e1, e2⟩ := hacc.2 j v (by rw [← Array.getElem?_toList]; exact e)
      exact ⟨k, x, e1, e2⟩
    refine h _ h' tk hk ?_
    have ek : kvs.map (fun p => kV p.1) = vs.map fun p => kV p.1 := by
      have := congrArg (List.map kV) rel.keys
      simpa [List.map_map, Function.comp_def] using this
    rw [ek]
    exact v
def rSortD (X : Cx) : List V → Hp → VK → Prop := fun vs H Q => ∃ (F : Addr → Prop) (x : V) (xs : List V) (ds : List D), vs = [x] ∧ ColV X.K H x xs ∧ Rs (gam X) F H xs ds [] ∧ canSort ds = true ∧
  ∀ p ys, H p = none → Rs (gam X) F H ys (sortD ds) [] → Q (.ref p) (upd H p (.lst ys))
theorem toPys_all {l : List D} : ∀ {m : List PyData}, toPys l = some m → ∀ d ∈ l, ∃ y, toPy d = some y := by
  induction l with
  | nil => intro m _ d hd; cases hd
  | cons x l ih =>
    intro m hm d hd
    simp only [toPys] at hm
    split at hm
    · rename_i e1 e2
      rcases List.mem_cons.mp hd with rfl | hd
      · exact ⟨_, e1⟩
      · exact ih e2 d hd
    · cases hm
theorem cr_sortD {X : Cx} (hcalm : X.calm = true) (hu : X.A.units + 64 < cLine) : CallR X (.builtin "sorted") (rSortD X) := by
  intro pins s σ H vs us Q I r h
  obtain ⟨F, x, xs, ds, rfl, hs, rs, hc, q⟩ := h
  obtain ⟨u, rfl, rx⟩ := vals1 r
  have hz := colV_len I hs
  unfold canSort at hc
  split at hc
  · rename_i ys hy
    simp only [Bool.and_eq_true, Bool.or_eq_true, decide_eq_true_eq] at hc
    obtain ⟨⟨h1, h2⟩, h3⟩ := hc
    have ey := toPys_map hy
    have enc : (xs.zip ds).map (fun p => pyOf p.2) = ys := by
      have z : ((xs.zip ds).map Prod.snd).map pyOf = ds.map pyOf := by rw [List.map_snd_zip (by rw [rs.length]; exact Nat.le_refl _)]
      rw [ey, ← z, List.map_map]
      rfl
    have hal : AllAlike ((xs.zip ds).map fun p => pyOf p.2) := by
      rw [enc]
      intro d hd d' hd'
      unfold alikeL at h1
      rw [List.all_eq_true] at h1
      have := h1 d hd
      rw [List.all_eq_true] at this
      exact this d' hd'
    refine Calls.call_function_entry PyProof.Rows.kind_sorted PyProof.Rows.plain_sorted PyProof.Rows.entry_sorted (PyProof.Rows.args_sorted1 _) ?_
    unfold Builtin.«sorted»
    refine wpAny_bind (m := checkCount "sorted" 1 1 _) (wpAny_pure ?_)
    refine wpAny_bind (collects hcalm I rx hs fun us h' tk hk rv => ?_)
    have I1 : L2.Inv X pins σ H { s with heap := h', toks := tk } := I.kept hk
    have hL : us.length ≤ sizeLine := by rw [← rv.length]; exact hz
    have e := each_pairs rs rv
    refine wpAny_bind (wpAny_newList ?_ hL)
    have hoL : (h'.push (seqObj "list" us.toArray 0)).get? h'.objs.size = some (seqObj "list" us.toArray 0) := Heap.get?_push_size _ rfl
    show wpAny _ _ _ _ _ { s with heap := h'.push (seqObj "list" us.toArray 0), toks := tk }
    have old : ∀ {b : Addr} {o : Obj}, h'.get? b = some o → (sortingHeap (h'.push (seqObj "list" us.toArray 0)) h'.objs.size us).get? b = some o := fun {b o} q => sortingHeap_old (Nat.ne_of_lt (Heap.lt_size q)) (Heap.get?_push_of_some _ q)
    have er : EachIs (fun u (p : V × D) => ∃ as, Reads (sortingHeap (h'.push (seqObj "list" us.toArray 0)) h'.objs.size us) u (pyOf p.2) as) us (xs.zip ds) := by
      refine (each_mem e).mono fun u p z => ?_
      obtain ⟨⟨z1, z2⟩, z3⟩ := z
      have hm : p.2 ∈ ds := (List.of_mem_zip (show (p.1, p.2) ∈ xs.zip ds from z3)).2
      obtain ⟨y, hy'⟩ := toPys_all hy p.2 hm
      obtain ⟨as, hr⟩ := z2.reads I1 u y z1 hy'
      exact ⟨as, by unfold pyOf; rw [hy']; exact PyProof.Rows.Reads.keeps (fun _ _ q => old q) hr⟩
    have room : ∀ d, d ∈ (xs.zip ds).map (fun p => pyOf p.2) → X.A.in1.in1.units + d.depth < cLine := by
      intro d hd
      rw [enc] at hd
      have := h3 d hd
      show X.A.units + 1 + 1 + d.depth < cLine
      omega
    have em := each_map (R := fun v d => ∃ as, Reads (sortingHeap (h'.push (seqObj "list" us.toArray 0)) h'.objs.size us) v d as) (fun p : V × D => pyOf p.2) er
    have S : SortsAt X.prog X.w X.A.in1.in1 { s with heap := sortingHeap (h'.push (seqObj "list" us.toArray 0)) h'.objs.size us, toks := tk } (dataKind (sortingHeap (h'.push (seqObj "list" us.toArray 0)) h'.objs.size us) ((xs.zip ds).map fun p => pyOf p.2)) us := by
      rcases h2 with h2 | h2
      · refine sorts_tups em hal (fun d hd => ?_) room
        rw [enc] at hd
        rw [List.all_eq_true] at h2
        have := h2 d hd
        cases d <;> first | exact ⟨_, rfl⟩ | (simp [isTupP] at this)
      · refine SortsAt.data em hal (.inr fun d hd => ?_) room
        rw [enc] at hd
        rw [List.all_eq_true] at h2
        have := h2 d hd
        refine ⟨fun z => ?_, fun ws z => ?_⟩
        · subst z; simp [isNonP] at this
        · subst z; simp [isTupP] at this
    refine wpAny_bind (wpAny_holding (wpAny_call_entry PyProof.Rows.slot_list_sort ⟨_, hoL, rfl⟩ PyProof.Rows.entry_list_sort
      (list_sort_vals (s := { s with heap := h'.push (seqObj "list" us.toArray 0), toks := tk }) hoL S hL ⟨_, rfl, ?_⟩) (PyProof.Rows.args_list_sort _)))
    have eo := sortVals_data false e er hal
    obtain ⟨o1, o2⟩ := each_out eo
    have em2 : ((xs.zip ds).mergeSort (dataLe false fun p => pyOf p.2)).map (·.2) = sortD ds := by
      unfold sortD
      have z := List.map_mergeSort (r := dataLe false fun p : V × D => pyOf p.2) (s := dataLe false pyOf) (f := Prod.snd) (l := xs.zip ds) (fun a _ b _ => rfl)
      rw [List.map_snd_zip (by rw [rs.length]; exact Nat.le_refl _)] at z
      exact z
    rw [em2] at o2
    obtain ⟨ep, he'⟩ := PyProof.Rows.sortedHeap_at (vs := us) (out := (sortVals (dataKind (sortingHeap (h'.push (seqObj "list" us.toArray 0)) h'.objs.size us) ((xs.zip ds).map fun p => pyOf p.2)) false us us).toArray) hoL
    refine wpAny_pure ⟨_, rfl, .ref h'.objs.size, upd H h'.objs.size (.lst _), I1.laid (t' := tk) (fun b u e => ?_) (Nat.le_refl _) ⟨?_, _, ep, o1, he'⟩, rfl, q _ _ (I1.hok.fresh (Nat.le_refl _)) o2⟩
    · have hb : b < h'.objs.size := Heap.lt_size e
      rw [PyProof.Rows.sortedHeap_old (Nat.ne_of_lt hb) (by rw [size_push']; exact Nat.lt_succ_of_lt hb)]
      exact Heap.get?_push_of_some _ e
    · rw [List.length_map, List.length_mergeSort, List.length_zip]
      omega
  · cases hc
/-- what can be collected -/
def colD : D → Option (List D)
  | .lst _ xs => some xs
  | .tup xs => some xs
  | .dic _ kvs => if plainKeys kvs then some (kvs.map fun p => keyD p.1) else none
  | _ => none
theorem colD_R {G : Gam} {F : Addr → Prop} {H : Hp} {x : V} {d : D} {f : List Addr} {ds : List D} (r : R G F H x d f) (h : colD d = some ds) (s : solids ds = true) : ∃ xs, ColV G.K H x xs ∧ Rs G F H xs ds [] := by
  cases d <;> try (simp [colD] at h; done)
  case lst u xs =>
    cases h
    obtain ⟨p, vs, rfl, h1, h2⟩ := r.lst_inv s
    exact ⟨vs, ⟨p, rfl, .inl h1⟩, h2⟩
  case tup xs =>
    cases h
    obtain ⟨p, vs, rfl, h1, h2⟩ := r.tup_inv s
    exact ⟨vs, ⟨p, rfl, .inr (.inl h1)⟩, h2⟩
  case dic u kvs =>
    simp only [colD] at h
    split at h
    · rename_i hp
      cases h
      obtain ⟨a, es, fp, rfl, hd, t, _⟩ := r.dic_inv hp
      refine ⟨_, ⟨a, rfl, .inr (.inr ⟨es, hd, rfl⟩)⟩, ?_⟩
      have e : (kvs.map fun p => keyD p.1) = es.map fun p => kD p.1 := by
        have := congrArg (List.map keyD) t.keys
        simp only [List.map_map] at this
        simpa [Function.comp_def, tagK, keyD] using this
      rw [e]
      have gen : ∀ l : List (Key × V), Rs G F H (l.map fun p => kV p.1) (l.map fun p => kD p.1) [] := by
        intro l
        induction l with
        | nil => exact .nil
        | cons p l ih => exact .cons (f1 := []) (f2 := []) kV_R ih
      exact gen es
    · cases h
noncomputable def sortK : D → Option D := fun d => match colD d with
  | some ds => if solids ds && canSort ds then some (.lst true (sortD ds)) else none
  | none => none
theorem cd_sorted {X : Cx} (hc : X.calm = true) (hu : X.A.units + 64 < cLine) : CallD X (.builtin "sorted") (lift1 sortK) := ⟨_, cr_sortD hc hu, callS1 fun F H fp x a d f1 Q w ra m1 e q => by
  unfold sortK at e
  split at e
  · rename_i ds hd
    split at e
    · rename_i hcs
      simp only [Bool.and_eq_true] at hcs
      cases e
      obtain ⟨xs, c, rs⟩ := colD_R ra hd hcs.1
      exact ⟨F, x, xs, ds, rfl, c, rs, hcs.2, fun p ys hp rs' => q_lst w rs' q p hp⟩
    · cases e
  · cases e⟩
end DL

set_option Elab.async false
set_option linter.all false
set_option maxRecDepth 100000
set_option maxHeartbeats 4000000
/-! DL22: names that the generator prints; either rule. -/
namespace DL
open PySem PySem.Spec PyProof.Rows L2

/-- how many turns a while may take in a meaning -/
def fuel : Nat := 100000
abbrev subI : D → D → Option D := intK yes2 fun i j => .int (i - j)
abbrev modI : D → D → Option D := intK (fun _ j => decide (0 < j)) fun i j => .int (i % j)
abbrev fdivI : D → D → Option D := intK (fun _ j => decide (0 < j ∧ j < 1073741824)) fun i j => .int (i / j)
abbrev powI : D → D → Option D := intK (fun i j => decide (0 ≤ j ∧ j ≤ 1000000 ∧ i.natAbs < 2 ^ 64)) fun i j => .int (i ^ j.toNat)
abbrev maxK : D → D → Option D := intK yes2 fun i j => .int (if j > i then j else i)
abbrev minK : D → D → Option D := intK yes2 fun i j => .int (if j < i then j else i)
def negK : D → Option D
  | .int i => some (.int (-i))
  | _ => none
section
variable {X : Cx} {W : WX}
theorem ud_neg : UnD X (unaryOp .USub) negK := ⟨_, un_neg, opS1 fun F H fp x a d f1 Q w ra m1 e q => by
  cases a <;> try (simp only [negK] at e; cases e; done)
  simp only [negK, Option.some.injEq] at e
  subst e
  rw [ra.int_inv]
  exact ⟨_, rfl, gives w q (.int _)⟩⟩
def tstQ (q : Env → Option D) : Env → Res Bool := tst (qE q)
theorem dt_cmpQ {op : CmpOp} {k : D → D → Option D} {a b : Expr} {pos : Pos} {qa qb : Env → Option D} (h : OpD X (compareOp op) k) (ha : QR X a qa) (hb : QR X b qb) (hm : behindInMarks op b = false) : DT X W (.Compare a [op] [b] pos) (tstQ (qOp (lift2 k) (q2 qa qb))) := by
  obtain ⟨r, h1, h2⟩ := h.ex
  exact ⟨(pt_cmpR h1 ha.pe hb.pe hm).weak fun σ H Q z => tQ2 (tQF_op h2 (tQF_E (wp_tst z)))⟩
theorem de_either {e : Expr} {f g : Env → Res D} (p : Env → Prop) [DecidablePred p] (h1 : DE X W e f) (h2 : DE X W e g) : DE X W e (fun ρ => if p ρ then f ρ else g ρ) := ⟨⟨fun pins s σ H Q I q => by
  obtain ⟨F, ρ, fp, w, e, z⟩ := q
  by_cases c : p ρ
  · simp only [c, if_true] at z
    exact h1.pe.run pins s σ H Q I ⟨F, ρ, fp, w, e, z⟩
  · simp only [c, if_false] at z
    exact h2.pe.run pins s σ H Q I ⟨F, ρ, fp, w, e, z⟩⟩⟩
/-- a place's value: as it is where nothing of it is owned, else shared from now on -/
def isSol (q : Env → Option D) (ρ : Env) : Bool := match q ρ with
  | some d => solid d
  | none => false
def cpA (q : Env → Option D) (i : Nat) (st : Env → Option (List Key)) : Env → Res D := fun ρ => if isSol q ρ = true then qE (sol q) ρ else cpP i st ρ
theorem de_cpA {e : Expr} {q : Env → Option D} {i : Nat} {st : Env → Option (List Key)} (h : QR X e q) (h2 : PL X e i st) : DE X W e (cpA q i st) := de_either (fun ρ => isSol q ρ = true) (QR.de h) (de_cpP h2)
end
section
variable {X : Cx} {W : WX} {kp : List Nat} {tg iter elt : Expr} {ifs : List Expr} {scope : PySem.Scope} {pos : Pos} {own : List (Str × Nat)} {g : TG} {k : D → Env → Option Env} {tf : Env → Res Bool} {f : Env → Res D} {i : Nat}
theorem ds_setLcB {j : Nat} {y : Str} {py spos : Pos} (hc : X.calm = true) (hN : X.N.Nodup) (hy : X.N[j]? = some y) (hyl : X.env.scope.names.lookup y = some .local) (hki : j ∉ kp)
    (hsw : swapsWith (.ListComp elt [⟨tg, iter, ifs, 0⟩] scope pos) (some (.Name y py)) spos.line X.env = pure true) (hi : PE X iter (tVar i)) (ok : BlkOk X.N X.env.scope scope own)
    (hg : ∀ (s : Shared) (H : Hp) (C : Addr) (cl : List (Str × Addr)) (fp : List Addr), PG (X.blk s H scope (compEnvC scope cl C X.env) fp) tg g) (hk : ∀ kp, (∀ v ∈ own.map (·.2), v ∉ kp) → TgS (gam X) kp g k)
    (ht : ∀ (s : Shared) (H : Hp) (C : Addr) (cl : List (Str × Addr)) (fp : List Addr), PTs (X.blk s H scope (compEnvC scope cl C X.env) fp) ifs (WpT (gam X) W0 tf))
    (he : ∀ (s : Shared) (H : Hp) (C : Addr) (cl : List (Str × Addr)) (fp : List Addr), DE (X.blk s H scope (compEnvC scope cl C X.env) fp) W0 elt f) (hs : ∀ x, foldedSetIterable iter X.env x = pure x := by intro _; rfl) :
    DS X W kp (.Assign [.Name y py] (.ListComp elt [⟨tg, iter, ifs, 0⟩] scope pos) spos) (asgS j (compBE i k tf f (own.map (·.2)))) :=
  ⟨(ps_setLc hc hN hy hyl hsw (pi_of hi it_any) ok hg ht (fun s H C cl fp => (he s H C cl fp).pe) hs).weak fun D σ H q => wp_compB hk (wpS_bindE q fun d ρ1 v F1 H1 fv fp1 w r r1 p => by
    obtain ⟨g, w2, sb, e2⟩ := EnvR.set r (i := j) r1 w
    exact p _ F1 H1 g ((Ext.refl w).less sb) w2 e2 (Keep.set hki))⟩
end
end DL

set_option Elab.async false
set_option linter.all false
set_option maxRecDepth 100000
set_option maxHeartbeats 4000000
/-! DL23: an own error over ValueError whose __init__(self, x) says super().__init__(text) and self.f = x. -/
namespace DL
open PySem PySem.Spec PyProof.Rows L2

abbrev veB : List Value := [.type "ValueError", .type "Exception", .type "BaseException", .type "object"]
/-- the body of such an __init__ -/
def errBody (x fl tx : Str) (p0 p1 p2 p3 p4 p5 p6 p7 p8 p9 : Pos) (n : Nat) : List Stmt :=
  [.Expr (.Call (.Attribute (.Call (.Name "super" p0) [] [] p1) "__init__" p2) [.Constant (.str tx) n p3] [] p4) p5,
   .Assign [.Attribute (.Name "self" p6) fl p7] (.Name x p8) p9]
/-- what the written part says of the class at C and of its __init__ at f -/
structure ErrC (P : Program) (w : World) (K : PySem.W.Frag) (C f cc cda : Addr) (x fl : Str) (params : Arguments) (scope : Scope) : Prop where
  o : OexC K C
  hno : PySem.W.findIn K (.ref C) fl = some none
  sup : PySem.W.ks_superIn K C C "__init__" = some (some (.builtin "ValueError.__init__"))
  subB : PySem.W.subIn K (.ref C) (.type "ValueError") = some true
  sub : PySem.W.mroIn K C (.ref C) = some true
  ini : PySem.W.excInitIn K C veB "ValueError.__new__" = true
  ov : PySem.W.excOver K C veB = true
  dct : PySem.W.hasDictIn K C = true
  tk : PySem.W.takerIn K C fl = some none
  op : PySem.W.nsIn K cStatics "thirdparty.any" = some none
  cell : ∃ cl cld csl, K.lookup cc = some ⟨cl, cld, .cell (some (.ref C)), csl⟩
  code : ∃ ccl cdd vs ccs file tf, K.lookup cda = some ⟨ccl, cdd, .fields vs, ccs⟩ ∧ vs[2]? = some (.str file tf) ∧ ((P.main.file : Str) == file) = true
  cls : ∃ cd, PySem.W.clsIn K C = some cd
  top : (P.main.scope.names.lookup ("super" : Str)).isSome = false
  hks : scope.names.lookup ("super" : Str) = some .globalImplicit
  hkc : scope.names.lookup ("__class__" : Str) = some .free
  hself : scope.names.lookup ("self" : Str) = some .local
  hx : scope.names.lookup x = some .local
  ne : x ≠ "self"
  hk : scope.kind = .function
  par : ∃ ar, (params.posonlyargs ++ params.args).head? = some ar ∧ ar.arg = "self"

/-- the promise of such an __init__: self gets a dict with x at fl -/
def spErr (C : Addr) (fl : Str) : Sp := fun vs H Q _ => ∃ e y, vs = [.ref e, y] ∧ H e = some (exo e C none) ∧ ∀ dx, H dx = none → dx ≠ e → Q .non (upd (upd H dx (exd dx [(fl, y)])) e (exo e C (some dx)))
theorem fn_err {CX : CXT} {P : Program} {w : World} {K : PySem.W.Frag} {mg : Str → Option Value} {base : Heap} {k : Nat} {C f cc cda : Addr} {x fl tx : Str} {p0 p1 p2 p3 p4 p5 p6 p7 p8 p9 : Pos} {n : Nat} {name qual : Str} {params : Arguments} {scope : Scope} {dV kV doc pm ct oc : Value} {an od : Option Addr} {osl : Array (Option Value)}
    (T : ErrC P w K C f cc cda x fl params scope) (hm : mg "super" = none) (ndb : (x == ("__debug__" : Str)) = false)
    (lk : K.lookup f = some ⟨oc, od, .func (PySem.W.ksFn name qual params (errBody x fl tx p0 p1 p2 p3 p4 p5 p6 p7 p8 p9 n) scope dV kV doc pm an (.ref cda) ct cc), osl⟩) (hcd : PySem.W.codeIn K (.ref cda) qual = true)
    (hev : ∀ env : PySem.Env, ∃ pl : Sem Bool, eval (.Call (.Attribute (.Call (.Name "super" p0) [] [] p1) "__init__" p2) [.Constant (.str tx) n p3] [] p4) env = (do
      let ov ← attributeBase (.Call (.Name "super" p0) [] [] p1) "__init__" env (eval (.Call (.Name "super" p0) [] [] p1) env)
      standAt p2.atName
      let (f, first) ← holding [ov] (getMethod ov "__init__" pl)
      callWith p4 f first (backTo p4 (starEach [.Constant (.str tx) n p3] env)) []))
    (hcell : ∀ x ∈ scope.names, x.2 ≠ .cell) (hco : scope.isCoroutine = false) (hgen : scope.isGenerator = false) :
    FnOk P w K mg base CX (k + 1) f (PySem.W.ksFn name qual params (errBody x fl tx p0 p1 p2 p3 p4 p5 p6 p7 p8 p9 n) scope dV kV doc pm an (.ref cda) ct cc) ["self", x] (spErr C fl) := by
  refine ⟨fun vs H Q E ⟨e, y, h, _⟩ => by rw [h]; rfl, fun A outer s H args us vs Q E hr e0 hb r ⟨e, y, h, he, q⟩ => ?_⟩
  subst h
  obtain ⟨u0, u, rfl, r0, ry⟩ := vals2 r
  obtain rfl : u0 = Value.ref e := r0
  obtain ⟨t1, ho⟩ := exo_at e0.hok he
  have KX : K.In s.heap := e0.mod.kin.keeps fun b o e => (e0.bs b o e).1
  have lim : s.heap.NoLimit := e0.mod.nolimit.keeps fun b o e => (e0.bs b o e).1
  have nb : ∀ {b : Addr} {o : Obj}, base.get? b = some o → b ≠ e := fun {b o} h1 z => by
    have := (e0.bs b o h1).2
    rw [z, he] at this
    cases this
  obtain ⟨ar, hp, har⟩ := T.par
  obtain ⟨cl, cld, csl, hcl⟩ := T.cell
  obtain ⟨ccl, cdd, vv, ccs, file, tf, hcode, hvs, hfile⟩ := T.code
  obtain ⟨cdD, hD⟩ := T.cls
  obtain ⟨mb, hb1, hb2⟩ := e0.mod.blt
  refine ks_codeAny_call_defAt (fd := PySem.W.ksFn name qual params (errBody x fl tx p0 p1 p2 p3 p4 p5 p6 p7 p8 p9 n) scope dV kV doc pm an (.ref cda) ct cc) hr.depth (KX _ _ lk) rfl lim (PySem.W.codeRec_of KX hcd) rfl hb hcell
    (fun z hz => ?_) (fun h0 hns hk => ?_) hco hgen T.hk
  · rcases List.mem_cons.mp hz with rfl | hz
    · exact T.hself
    · rcases List.mem_cons.mp hz with rfl | hz
      · exact T.hx
      · cases hz
  let m : Str → Option Value := fun z => (([("self" : Str), x].zip [Value.ref e, u]).reverse).lookup z
  let g : Heap := PySem.W.hideAll s.heap [e]
  have F0 : Fr g s.heap.objs.size h0 m := ⟨hns, fun b o z => hk b o (PySem.W.of_hideAll _ z), Nat.le_of_eq (PySem.W.hideAll_size _ _)⟩
  have N0 : News g s.heap.objs.size h0 [(e, PySem.W.excObj C t1 none .none)] := fun p hp => by
    rcases List.mem_cons.mp hp with rfl | hp
    · exact ⟨hk _ _ ho, Nat.ne_of_lt (Heap.lt_size ho), PySem.W.hideAll_none _ (List.mem_cons_self ..)⟩
    · cases hp
  have bg : ∀ b o, base.get? b = some o → g.get? b = some o := fun b o h1 => PySem.W.hideAll_get _ (e0.bs b o h1).1 fun z => (nb h1) (List.mem_singleton.mp z)
  have Xg : K.In g := e0.mod.kin.keeps bg
  have msf : m "self" = some (.ref e) := by
    show List.lookup _ [(x, u), ("self", Value.ref e)] = _
    rw [List.lookup_cons, show (("self" : Str) == x) = false from beq_eq_false_iff_ne.mpr (Ne.symm T.ne)]
    rfl
  have mx : m x = some u := by
    show List.lookup _ [(x, u), ("self", Value.ref e)] = _
    rw [List.lookup_cons, beq_self_eq_true]
  have Ie : ∀ {h : Heap} {nw : List (Addr × Obj)} {t2 : Addr}, News g s.heap.objs.size h nw → (e, PySem.W.excObj C t2 none .none) ∈ nw → PySem.W.InstAt h e (PySem.W.excObj C t2 none .none) C none := fun N hm => PySem.W.InstAt.of_exc0 N hm
  have X0 : K.In h0 := Xg.keeps F0.keep
  obtain ⟨oD, hD1, hD2⟩ : ∃ oD, h0.get? C = some oD ∧ oD.data = .cls cdD := by
    unfold PySem.W.clsIn at hD
    split at hD
    · rename_i c d cd' sl hq
      cases hD
      exact ⟨_, X0 _ _ hq, rfl⟩
    · cases hD
  obtain ⟨pl, hpl⟩ := hev (callEnv (PySem.W.ksFn name qual params (errBody x fl tx p0 p1 p2 p3 p4 p5 p6 p7 p8 p9 n) scope dV kV doc pm an (.ref cda) ct cc) s.heap.objs.size f)
  have hint : interactive (callEnv (PySem.W.ksFn name qual params (errBody x fl tx p0 p1 p2 p3 p4 p5 p6 p7 p8 p9 n) scope dV kV doc pm an (.ref cda) ct cc) s.heap.objs.size f) = false := by
    show (scope.kind == ScopeKind.module && _) = false
    rw [T.hk]
    rfl
  refine ks_wpAt_execs_cons (ks_wpAt_Expr_any (hi := hint) (ks_wpAt_MethodCall (he := hpl) (ks_wpAt_super_base T.hks T.hkc rfl rfl (X0 _ _ lk) rfl hp rfl (X0 _ _ hcode) rfl hvs hfile T.top ?_)))
  refine PySem.W.ks_loadName_global T.hk T.hks (Calls.loadGlobal_builtin (e0.mod.glob.keeps fun b o h1 => F0.keep _ _ (bg b o h1)) hm (hb1.keeps fun b o h1 => F0.keep _ _ (bg b o h1)) ((hb2 _ (by decide)).trans (by decide +kernel)) ⟨rfl, ?_⟩)
  refine wpAny_loadName_free T.hk T.hkc rfl ⟨_, X0 _ _ hcl, rfl⟩ ?_
  rw [har]
  refine wpAny_loadName_local T.hk T.hself F0.ns msf ?_
  refine ks_wpAny_isType_cls hD1 hD2 ⟨rfl, ?_⟩
  have I0 := Ie N0 (List.mem_cons_self ..)
  refine ks_wpAny_call_super hD1 hD2 I0.at_ I0.cls (fun c z => ?_) (PySem.W.looks_mroIn X0 T.sub) (fun h1 z1 k1 => ?_)
  · cases z
  obtain ⟨F1, N1, l1⟩ := PySem.W.ks_newsPush (s := ⟨h0, s.gens, s.drawn, s.toks + 2, s.os⟩) (o := PySem.W.ks_superObj C e C) F0 N0 rfl z1 k1
  refine PySem.W.kxs_method PySem.W.kxs_ValueError F1 Xg N1 (List.mem_cons_self ..) (Ie N1 (List.mem_cons_of_mem _ (List.mem_cons_self ..))) T.op T.sup T.subB (by decide) (fun qa h2 F2 N2 l2 => ?_)
  refine PySem.W.kxs_callWith1 N2 (List.mem_cons_self ..) ?_
  refine spliced_more (Calls.Constant_str (spliced_none ⟨PySem.W.kxs_at N2 (List.mem_cons_self ..), ?_⟩))
  have ne2 : qa ≠ e := fun z => absurd (l2 _ (List.mem_cons_of_mem _ (List.mem_cons_self ..))) (by rw [z]; exact Nat.lt_irrefl _)
  have ne1 : h0.objs.size ≠ e := fun z => absurd (l1 _ (List.mem_cons_self ..)) (by rw [z]; exact Nat.lt_irrefl _)
  refine PySem.W.kxs_call F2 Xg N2 PySem.F.excBase_ValueError T.ini (List.mem_cons_self ..) (.tail ne2 (.tail ne1 (.head fun _ z => by cases z))) (by rw [sizeLine_eq]; exact Nat.le_of_ble_eq_true rfl) (fun t3 h3 F3 N3 l3 => ?_)
  obtain ⟨nm, qq, NN, bs, bm, sn, sub, ab, col, dd, k0, k1, k2, k3, k5, hC, hbm⟩ := T.o.cls
  have hcl' : PySem.W.clsIn K C = some { name := nm, bases := bs, mro := .ref C :: bm, ns := NN, qualname := qq, hasDict := true, slotNames := sn, subclasses := sub, abstract := ab, collection := col, hasDel := false } := by unfold PySem.W.clsIn; rw [hC] <;> rfl
  have X3 : K.In h3 := Xg.keeps F3.keep
  have o3 : h3.get? e = some ({ cls := .ref C, dict := none, data := .fields #[.ref t3, .none, .none, .none, .bool false, .none] } : Obj) := (N3 (e, PySem.W.excObj C t3 none .none) (List.mem_cons_of_mem _ (List.mem_cons_of_mem _ (List.mem_cons_of_mem _ (List.mem_cons_self ..))))).1
  refine ks_wpAt_execs_cons (ks_wpAt_Assign_Attr (wpAt_of_wpAny (PySem.ESX.ldL F3.ns mx (PySem.ESX.ldL F3.ns msf ?_ T.hk T.hself (by decide)) T.hk T.hx ndb)))
  refine PySem.W.set_plain X3 (ox := { cls := .ref C, dict := none, data := .fields #[.ref t3, .none, .none, .none, .bool false, .none] }) (od := none) ⟨o3, rfl, rfl, trivial⟩ T.o.sa ?_
  refine PySem.HandSPX.exc_osa X3 o3 hcl' (show PySem.HandSPX.refsVE (.ref C :: bm) = true from hbm) rfl T.hno (fun h4 tk4 dx kk dn dne hx4 hn4 => ?_)
  refine wpAt_of_wpAny (wpAny_execs_nil ?_)
  have nd : ∀ {b : Addr} {o : Obj}, s.heap.get? b = some o → b ≠ e → h4.get? b = some o := fun {b o} z n => kk b o n (F3.keep _ _ (PySem.W.hideAll_get _ z fun y => n (List.mem_singleton.mp y)))
  have hsz : s.heap.objs.size ≤ dx := Nat.le_trans (Nat.le_of_lt F3.ns.lt) dn
  have hdx : H dx = none := e0.hok.fresh hsz
  have ndx : ∀ {b : Addr} {o : Obj}, s.heap.get? b = some o → b ≠ dx := fun {b o} z => Nat.ne_of_lt (Nat.lt_of_lt_of_le (Heap.lt_size z) hsz)
  have na : ∀ {b : Addr}, H b = none → b ≠ e := fun {b} n z => by
    rw [z, he] at n
    cases n
  have U : Un (frs outer) [] H (upd (upd H dx (exd dx [(fl, y)])) e (exo e C (some dx))) s.heap h4 := {
    keep := fun b o z n _ _ => nd z (na n)
    slot := fun b o z n _ _ => ⟨o.slots, nd z (na n)⟩
    free := fun b o z n _ => by rw [upd_ne (na n), upd_ne (ndx z)]; exact n
    there := fun b o z _ => by
      by_cases hb : b = e
      · exact ⟨_, by rw [hb]; exact hx4⟩
      · exact ⟨o, nd z hb⟩
    tups := fun b xs z => by rw [upd_ne (at_ne he z exo_tup), upd_ne (ne_of_none z hdx)]; exact z
    frzs := fun b o v z => by rw [upd_ne (at_ne he z exo_frz), upd_ne (ne_of_none z hdx)]; exact z
    tbls := fun b ps z => ⟨#[], by rw [upd_ne (at_ne he z exo_tbl), upd_ne (ne_of_none z hdx), z]; simp⟩ }
  have HK : HOk P w (upd (upd H dx (exd dx [(fl, y)])) e (exo e C (some dx))) h4 := fun b o z => by
    by_cases hb : b = e
    · subst hb
      rw [upd_same] at z
      cases z
      exact exo_ok hx4
    · rw [upd_ne hb] at z
      by_cases hd : b = dx
      · subst hd
        rw [upd_same] at z
        cases z
        exact exd_ok hn4 (relO_put (fs := []) ry fun g => True.intro)
      · rw [upd_ne hd] at z
        exact (e0.hok b o z).stay (fun c v hc z2 => nd z2 (by
            rcases hc with hc | hc
            · rw [hc]
              exact hb
            · exact at_ne he hc exo_own))
          (fun c hc => by rw [upd_ne (at_ne he hc exo_own), upd_ne (ne_of_none hc hdx)]; exact hc) (fun c xs hc => by rw [upd_ne (at_ne he hc exo_tup), upd_ne (ne_of_none hc hdx)]; exact hc)
  exact ⟨.non, _, rfl, e0.bare, U, HK, rfl, q dx hdx dne⟩
end DL

set_option Elab.async false
set_option linter.all false
set_option maxRecDepth 100000
set_option maxHeartbeats 4000000
/-! DL24: an own error made and held as a value. -/
namespace DL
open PySem PySem.Spec PyProof.Rows L2

/-- C(e): the error with its one field -/
def tMkE (C : Addr) (fl : Str) (ta : TA) : TE := fun σ H Q => ta σ H fun vs H1 => ∃ y, vs = [y] ∧ ∀ a dx, H1 a = none → H1 dx = none → dx ≠ a → Q (.ref a) (upd (upd H1 dx (exd dx [(fl, y)])) a (exo a C (some dx)))
theorem upd3 {H : Hp} {a d : Addr} {o1 o2 o3 : HO} (n : d ≠ a) : upd (upd (upd H a o1) d o2) a o3 = upd (upd H d o2) a o3 := by
  funext b
  by_cases h1 : b = a
  · rw [h1, upd_same, upd_same]
  · rw [upd_ne h1, upd_ne h1]
    by_cases h2 : b = d
    · rw [h2, upd_same, upd_same]
    · rw [upd_ne h2, upd_ne h2, upd_ne h1]
section
variable {X : Cx} {e : Expr} {es : List Expr} {ta : TA} {p pos : Pos}
theorem pe_mkErr {CX : CXT} {x : Str} {C fI : Addr} {k : Nat} {fd : FuncData} {ps : List Str} {fl : Str} (T : OexC X.K C) (iC : PySem.W.findIn X.K (.ref C) "__init__" = some (some (.ref fI))) (tI : PySem.W.typeIn X.K (.ref fI) = some (.type "function"))
    (F1 : FnOk X.prog X.w X.K X.mg X.base CX k fI fd ps (spErr C fl)) (hr : Room (k + 1) X.A) (hb : Binds X.K fd ps []) (hx : Passes CX X (fun _ _ _ => False)) (hg : Gl X x) (hm : X.mg x = some (.ref C)) (ha : PA X (e :: es) ta)
    (hdb : (x == ("__debug__" : Str)) = false := by decide) (he : starEach (e :: es) X.env = (false, eval e X.env) :: starEach es X.env := by rfl) (hpl : (backTo pos (starEach es X.env)).any (·.1) = false := by rfl) :
    PE X (.Call (.Name x p) (e :: es) [] pos) (tMkE C fl ta) := by
  refine ⟨fun pins s σ H Q I h => ?_⟩
  obtain ⟨nm, q, N, bs, bm, sn, sub, ab, col, dd, k0, k1, k2, k3, k5, hC, hbm⟩ := T.cls
  refine wpAny_Call_Name_kw (ld_glob I hg hm ?_ hdb)
  refine PySem.W.callWith_K (h₀ := X.base) I.ok.mod.kin T.kC (thn (ha.run pos pins s σ H _ I h) fun us s1 ⟨vs, H1, I1, r1, y, ev, q1⟩ => ⟨I1.kIn, ?_⟩) he hpl
  subst ev
  show wpAny _ _ (call (.ref C) us) _ _ _
  obtain ⟨hp, g, dr, tk, os⟩ := s1
  have big : hp.objs.size ≤ hp.objs.size + 1 := Nat.le_add_right _ 1
  have fresh : H1 (hp.objs.size + 1) = none := I1.hok.fresh big
  have kk : ∀ b o, hp.get? b = some o → ((hp.push (PySem.W.kdv_tup us)).push (PySem.HandSPX.excO C hp.objs.size)).get? b = some o := fun b o z => Heap.get?_push_of_some _ (Heap.get?_push_of_some _ z)
  have got : ((hp.push (PySem.W.kdv_tup us)).push (PySem.HandSPX.excO C hp.objs.size)).get? (hp.objs.size + 1) = some (PySem.HandSPX.excO C hp.objs.size) := by heap_get
  have I2 : Inv X pins σ (upd H1 (hp.objs.size + 1) (exo (hp.objs.size + 1) C none)) ⟨(hp.push (PySem.W.kdv_tup us)).push (PySem.HandSPX.excO C hp.objs.size), g, dr, tk, os⟩ := I1.laid (t' := tk) (a := hp.objs.size + 1) (o := exo (hp.objs.size + 1) C none) (h' := ((hp.push (PySem.W.kdv_tup us)).push (PySem.HandSPX.excO C hp.objs.size))) kk big (exo_ok got)
  have r2 : Vals (V.ref (hp.objs.size + 1) :: ([y] ++ [])) (Value.ref (hp.objs.size + 1) :: (us ++ [])) := .cons rfl (r1.append .nil)
  have hq : spErr C fl [V.ref (hp.objs.size + 1), y] (upd H1 (hp.objs.size + 1) (exo (hp.objs.size + 1) C none)) (fun v H2 => v = .non ∧ ∃ dx, H1 dx = none ∧ dx ≠ hp.objs.size + 1 ∧ H2 = upd (upd H1 dx (exd dx [(fl, y)])) (hp.objs.size + 1) (exo (hp.objs.size + 1) C (some dx))) (fun _ _ _ => False) := by
    refine ⟨_, _, rfl, upd_same, fun dx n ne => ⟨rfl, dx, ?_, ne, ?_⟩⟩
    · rw [upd_ne ne] at n
      exact n
    · rw [upd3 ne]
  have hl : (Value.ref (hp.objs.size + 1) :: us ++ []).length = ps.length := by
    have z := r2.length
    rw [show (V.ref (hp.objs.size + 1) :: ([y] ++ [])).length = ps.length from F1.len _ _ _ _ hq] at z
    exact z.symm
  have hus : us.length ≤ sizeLine := by
    rw [← Paired.length r1, sizeLine_eq]
    exact Nat.le_of_ble_eq_true rfl
  refine wpAny_call (PySem.HandSPX.call_own F.excBase_ValueError (fun Y => PySem.HandSPX.refsVE_contains Y bm hbm) (I1.kIn _ _ hC) (PySem.W.looks_findIn I1.kIn iC) (fun self => PySem.W.bind_fn I1.kIn self tI) hus
    (codeAny_mono (F1.run _ X.stack _ _ ⟨Value.ref (hp.objs.size + 1) :: us, []⟩ (Value.ref (hp.objs.size + 1) :: (us ++ [])) _ _ _ (hr.make C us []) (I2.env0.make C us []) (by rw [← List.cons_append]; exact hb _ (Value.ref (hp.objs.size + 1) :: us) I2.kIn hl) r2 hq) fun r s' hq' => ?_))
  cases r with
  | error er => exact hx pins σ _ _ er s' I2 hq'
  | ok fl' =>
    cases fl' with
    | ret u =>
      obtain ⟨v, H2, os2, bare2, un2, hok2, rv, ev, dx, n, ne, e2⟩ := hq'
      subst ev e2
      obtain ⟨h2, g2, d2, t2, os'⟩ := s'
      have nha : ∀ {b : Addr} {o : Obj}, hp.get? b = some o → b ≠ hp.objs.size + 1 := fun {b o} z => Nat.ne_of_lt (Nat.lt_of_lt_of_le (Heap.lt_size z) big)
      have U : Un (frs X.stack) [] H1 (upd (upd H1 dx (exd dx [(fl, y)])) (hp.objs.size + 1) (exo (hp.objs.size + 1) C (some dx))) hp h2 := {
        keep := fun b o z n hf hx => un2.keep b o (kk b o z) (by rw [upd_ne (nha z)]; exact n) hf hx
        slot := fun b o z n hf hx => un2.slot b o (kk b o z) (by rw [upd_ne (nha z)]; exact n) hf hx
        free := fun b o z n hx => un2.free b o (kk b o z) (by rw [upd_ne (nha z)]; exact n) hx
        there := fun b o z hx => un2.there b o (kk b o z) hx
        tups := fun b xs z => un2.tups b xs (by rw [upd_ne (ne_of_none z fresh)]; exact z)
        frzs := fun b o v z => un2.frzs b o v (by rw [upd_ne (ne_of_none z fresh)]; exact z)
        tbls := fun b ps z => un2.tbls b ps (by rw [upd_ne (ne_of_none z fresh)]; exact z) }
      exact ⟨rv, ⟨_, _, I1.call' (ch := []) os2 U hok2 bare2 (fun b z => absurd z (by simp)), by rfl, q1 _ dx fresh n ne⟩⟩
    | next => exact False.elim hq'
    | brk => exact False.elim hq'
    | cont => exact False.elim hq'
end
end DL

set_option Elab.async false
set_option linter.all false
set_option maxRecDepth 100000
set_option maxHeartbeats 4000000
/-! DL25: held errors: made, their field read, their class asked. -/
namespace DL
open PySem PySem.Spec PyProof.Rows L2

/-- C(e) -/
def mkErrD (Cn fl : Str) (f : Env → Res D) : Env → Res D := fun ρ => (f ρ).bind fun d ρ' => .ok (.exc Cn [(fl, frz d)]) ρ'
section
variable {G : Gam} {W : WX} {F F1 F2 : Addr → Prop} {H H1 H2 : Hp} {fp fp1 fp2 g g1 g2 : List Addr} {σ : L2.St} {ρ : Env} {Q : VK}
/-- two new objects, shared at once -/
theorem ext_two {a d : Addr} {o1 o2 : HO} (w : Wd F H fp) (hd : H d = none) (ha : H a = none) (ne : d ≠ a) : Ext F H fp (FF F [a, d]) (upd (upd H d o1) a o2) fp ∧ Wd (FF F [a, d]) (upd (upd H d o1) a o2) fp := by
  have nf : ∀ {b : Addr}, H b ≠ none → b ≠ a ∧ b ≠ d := fun {b} n => ⟨fun z => n (by rw [z]; exact ha), fun z => n (by rw [z]; exact hd)⟩
  have st : ∀ {b : Addr}, b ≠ a → b ≠ d → upd (upd H d o1) a o2 b = H b := fun {b} n1 n2 => by rw [upd_ne n1, upd_ne n2]
  have nn : ∀ b, H b ≠ none → upd (upd H d o1) a o2 b ≠ none := fun b h => by rw [st (nf h).1 (nf h).2]; exact h
  refine ⟨⟨fun _ h => .inl h, fun b o h _ => .inl ?_, fun b h => .inl h, fun b h => ?_, nn⟩, ⟨w.nodup, fun b h z => ?_, fun b h => ?_, fun b h => ?_⟩⟩
  · have q := nf (b := b) (by rw [h]; exact fun z => nomatch z)
    rw [st q.1 q.2]
    exact h
  · rcases h with h | h
    · exact .inl h
    · rcases List.mem_cons.mp h with rfl | h
      · exact .inr (.inr ha)
      · rcases List.mem_cons.mp h with rfl | h
        · exact .inr (.inr hd)
        · cases h
  · obtain ⟨o, e, _⟩ := w.own b h
    have q := nf (b := b) (by rw [e]; exact fun z => nomatch z)
    rcases z with z | z
    · exact w.ff b h z
    · rcases List.mem_cons.mp z with z | z
      · exact q.1 z
      · rcases List.mem_cons.mp z with z | z
        · exact q.2 z
        · cases z
  · obtain ⟨o, e, ho⟩ := w.own b h
    have q := nf (b := b) (by rw [e]; exact fun z => nomatch z)
    exact ⟨o, by rw [st q.1 q.2]; exact e, ho⟩
  · rcases h with h | h
    · exact nn b (w.ft b h)
    · rcases List.mem_cons.mp h with rfl | h
      · rw [upd_same]
        exact fun z => nomatch z
      · rcases List.mem_cons.mp h with rfl | h
        · rw [upd_ne ne, upd_same]
          exact fun z => nomatch z
        · cases h
theorem wp_mkErr {Cn fl : Str} {C : Addr} {f : Env → Res D} (hm : G.mg Cn = some (.ref C)) (h : WpE G W (mkErrD Cn fl f) σ H Q) : tMkE C fl (tCons (WpE G W f) tNil) σ H Q := by
  obtain ⟨F, ρ, fp, w, e, p⟩ := h
  unfold mkErrD at p
  refine ⟨F, ρ, fp, w, e, ?_⟩
  cases h1 : f ρ with
  | ok d ρ1 =>
    simp only [h1, Res.bind_ok] at p ⊢
    intro y F1 H1 fv fp1 E1 W1 e1 ry
    refine ⟨y, rfl, fun a dx na nd ne => ?_⟩
    have W2 := W1.freeze
    obtain ⟨E3, W3⟩ := ext_two (o1 := exd dx [(fl, y)]) (o2 := exo a C (some dx)) W2 nd na ne
    have E4 : Ext F H fp (FF (FF F1 fv) [a, dx]) (upd (upd H1 dx (exd dx [(fl, y)])) a (exo a C (some dx))) fp1 := (E1.trans (Ext.freeze W1)).trans E3
    have e4 := (e1.mono fun _ z => Or.inl z : EnvR G (FF F1 fv) H1 σ ρ1 fp1)
    have ry2 : R G (FF F1 fv) H1 y (frz d) [] := ry.freeze fun _ m => m
    obtain ⟨E5, W5⟩ := ext_two (o1 := exd dx [(fl, y)]) (o2 := exo a C (some dx)) W2.nil nd na ne
    have e5 : EnvR G (FF (FF F1 fv) [a, dx]) (upd (upd H1 dx (exd dx [(fl, y)])) a (exo a C (some dx))) σ ρ1 fp1 := e4.keep E5 W2.nil fun b m => ⟨(fun z => nomatch z), W2.ff b m⟩
    have ry5 := ry2.keep E5 W2.nil fun b m => nomatch m
    refine p (.ref a) _ _ [] fp1 E4 W3 e5 (.excF (.inr (List.mem_cons_self ..)) (.inr (List.mem_cons_of_mem _ (List.mem_cons_self ..))) hm upd_same (by rw [upd_ne ne, upd_same]) (.cons (f1 := []) (f2 := []) ry5 .nil))
  | err x ρ1 => simp only [h1, Res.bind_err] at p ⊢; exact p
  | stuck => simp only [h1, Res.bind_stuck] at p ⊢; exact False.elim p
/-- e.n, e a held error -/
def tEf (K : PySem.W.Frag) (n : Str) (te : TE) : TE := fun σ H Q => te σ H fun x H1 => ∃ a C dd fs v, x = .ref a ∧ XfC K C ∧ PySem.W.findIn K (.ref C) n = some none ∧ H1 a = some (exo a C (some dd)) ∧ H1 dd = some (exd dd fs) ∧ fs.lookup n = some v ∧ Q v H1
theorem pe_ef {X : Cx} {e : Expr} {te : TE} {pos : Pos} {n : Str} (he : PE X e te) (hb : attributeBase e n X.env (eval e X.env) = eval e X.env := by rfl) : PE X (.Attribute e n pos) (tEf X.K n te) := by
  refine ⟨fun pins s σ H Q I h => attr_of hb (thn (he.run pins s σ H _ I h) fun u s1 ⟨x, H1, I1, rx, a, C, dd, fs, v, ex, T, hno, ea, ed, l, q⟩ => ?_)⟩
  subst ex
  obtain rfl : u = Value.ref a := rx
  obtain ⟨t1, ho⟩ := exo_at I1.hok ea
  obtain ⟨mA, hns, hr⟩ := exd_at I1.hok ed
  obtain ⟨od, hod, hl⟩ := lookIn_ns hns
  obtain ⟨u, hu, ru⟩ := RelO.some_of (v := v) (o := mA n) (by rw [← l]; exact hr n)
  exact HandSPX.exc_get I1.kIn ⟨ho, rfl, rfl, hod⟩ T.ga T.gg T.exC (PySem.W.findObj_own T.hdC hno rfl (by rw [hl, hu])) (handed_of ru) ⟨v, H1, I1.tok _, ru, q⟩
/-- the classes of errors that may be held -/
structure ErrTab (K : PySem.W.Frag) (mg : Str → Option Value) (T : List Str) (ns : List Str) : Prop where
  ok : ∀ Cn ∈ T, ∀ C, mg Cn = some (.ref C) → XfC K C ∧ ∀ n ∈ ns, PySem.W.findIn K (.ref C) n = some none
def fldE (T : List Str) (n : Str) : D → Option D
  | .exc C fs => if C ∈ T then fs.lookup n else none
  | _ => none
theorem Rf.lookA {n : Str} : ∀ {hfs : List (Str × V)} {fs : List (Str × D)} {fp : List Addr} {d : D}, Rf G F H hfs fs fp → fs.lookup n = some d → ∃ v f1, hfs.lookup n = some v ∧ R G F H v d f1 ∧ ∀ a ∈ f1, a ∈ fp
  | _, _, _, _, .nil, h => by cases h
  | _, _, _, d, .cons (n := m) (v := v) (d := d') (vs := vs) (ds := ds) r t, h => by
    by_cases e : n = m
    · subst e
      rw [lookup_put, if_pos rfl]
      have : (((n, d') :: ds : List (Str × D)).lookup n) = some d' := by rw [List.lookup_cons, beq_self_eq_true]
      rw [this] at h
      cases h
      exact ⟨_, _, rfl, r, fun a h => List.mem_append_left _ h⟩
    · rw [lookup_put, if_neg e]
      rw [List.lookup_cons, show (n == m) = false from beq_eq_false_iff_ne.mpr e] at h
      obtain ⟨v', f1, h1, h2, h3⟩ := Rf.lookA t h
      exact ⟨v', f1, h1, h2, fun a h => List.mem_append_right _ (h3 a h)⟩
theorem Rf.look {n : Str} {hfs : List (Str × V)} {fs : List (Str × D)} {d : D} (r : Rf G F H hfs fs []) (h : fs.lookup n = some d) : ∃ v, hfs.lookup n = some v ∧ R G F H v d [] := by
  obtain ⟨v, f1, h1, h2, h3⟩ := r.lookA h
  rw [nil_of h3] at h2
  exact ⟨v, h1, h2⟩
/-- a name's error: its field, quiet -/
def qFld (T : List Str) (n : Str) (q : Env → Option D) : Env → Option D := fun ρ => (q ρ).bind (fldE T n)
theorem qr_fld {X : Cx} {e : Expr} {pos : Pos} {n : Str} {T ns : List Str} {q : Env → Option D} (tb : ErrTab X.K X.mg T ns) (hn : n ∈ ns) (h : QR X e q) (hb : attributeBase e n X.env (eval e X.env) = eval e X.env := by rfl) : QR X (.Attribute e n pos) (qFld T n q) :=
  ⟨(pe_ef h.pe hb).weak fun σ H Q z => by
    obtain ⟨F, ρ, fp, w, e, d, hq, k⟩ := z
    unfold qFld at hq
    obtain ⟨d0, h1, h2⟩ := Option.bind_eq_some_iff.mp hq
    refine ⟨F, ρ, fp, w, e, d0, h1, fun y F' H' fv fy E' W' e' r m => ?_⟩
    cases d0 <;> try (simp only [fldE] at h2; cases h2; done)
    rename_i Cn fs
    simp only [fldE] at h2
    split at h2
    · rename_i ht
      cases r with
      | excF f f2 hm ha hd rf =>
        obtain ⟨v, hl, rv⟩ := rf.look h2
        obtain ⟨o1, o2⟩ := tb.ok _ ht _ hm
        exact ⟨_, _, _, _, _, rfl, o1, o2 n hn, ha, hd, hl, k _ F' H' fv [] E' W' e' rv fun _ z => nomatch z⟩
      | excN f hm ha => cases h2
    · cases h2⟩
end
end DL

set_option Elab.async false
set_option linter.all false
set_option maxRecDepth 100000
set_option maxHeartbeats 4000000
/-! DL26: isinstance, held errors too. -/
namespace DL
open PySem PySem.Spec PyProof.Rows L2
section
open PySem.W PySem.Calls
variable {prog : Program} {w : World} {A : Around} {E : Value → Shared → Prop} {s : Shared} {K : Frag} {x D : Addr} {ox : Obj} {od : Option Obj}
theorem clsAttr_exc {Q : Option Value → Shared → Prop} (T : ExcC K D) (X : K.In s.heap) (I : InstAt s.heap x ox D od) (h : Q (some (.ref D)) { s with toks := s.toks + 1 }) : wpAny (model prog w) A (getAttr? (.ref x) "__class__") Q E s := by
  have hf : findObj K D od "__class__" = some (.bind (.builtin "getset_descriptor.__get__") (.builtin "object.__class__")) := by
    have hc : (clsIn K D).isSome = true := by
      obtain ⟨cd, hc, _⟩ := any_some T.hd
      rw [hc]; rfl
    cases od with
    | some o => exact findObj_data hc T.ha T.hn T.ht
    | none => exact findObj_dataN hc T.ha T.hn T.ht
  obtain ⟨hp, g, d, t, os⟩ := s
  have La := I.type (M := model prog w)
  have Lb := looks_findIn (M := model prog w) X T.hg
  have Lc := looks_findIn (M := model prog w) X T.hk
  have Ld := looks_find (M := model prog w) X I hf
  have Le : Looks (model prog w) hp (isInstance (.ref x) (.type "BaseException")) true := La.andThen (looks_subIn X T.hs)
  have z0 : (false && onTheHeap (Value.builtin "BaseException.__getattribute__")) = false := rfl
  have z1 : (onTheHeap (Value.ref D) && Value.builtin "BaseException.__getattribute__" == Value.builtin "object.__getattribute__") = false := by
    rw [show (Value.builtin "BaseException.__getattribute__" == Value.builtin "object.__getattribute__") = false by decide +kernel]
    rfl
  unfold getAttr? getAttrBy? getAttrBy
  refine wpAny_bind (wpAny_mkText (wpAny_bind (wpAny_attempt (wpAny_holding (wpAny_bind (La.at (wpAny_bind (Lb.at ?_))))))))
  show wpAny _ _ (if (onTheHeap (Value.ref D) && Value.builtin "BaseException.__getattribute__" == Value.builtin "object.__getattribute__") = true then _ else _) _ _ _
  rw [z1, if_neg Bool.false_ne_true]
  unfold getAttrByItsOwn hookBefore
  refine wpAny_bind ?_
  rw [if_pos (show onTheHeap (Value.ref D) = true from rfl)]
  refine Lc.at (wpAny_bind (wpAny_attempt (wpAny_holding ?_)))
  unfold callGetattribute
  rw [z0, if_neg Bool.false_ne_true]
  unfold boundAndCalled
  rw [PySem.F.excAttr_ValueError.ga.bind (.ref x)]
  refine wpAny_bind (wpAny_pure ?_)
  show wpAny _ _ (call (.builtin "BaseException.__getattribute__") [.ref x, .str "__class__" t]) _ _ _
  refine wpAny_call (codeAny_call_builtin PySem.F.excAttr_ValueError.ga.plain PySem.F.entry_bexc_ga (@check_slot (model prog w) _ _ ⟨hp, g, d, t + 1, os⟩ "BaseException.__getattribute__" "BaseException" "__getattribute__" (.ref x) [.str "__class__" t] [] _ (by decide +kernel) (by decide +kernel) Le (PySem.F.args_bexc_ga (.ref x) (.str "__class__" t)) ?_))
  unfold Builtin.«object.__getattribute__»
  refine wpAny_bind (wpAny_of_eq (a := ((Value.ref x : Value), [Value.str "__class__" t])) (by first | rfl | (simp only [slotArgs]; rfl)) (wpAny_bind (wpAny_pure (wpAny_bind (La.at (wpAny_bind (Ld.at ?_)))))))
  show wpAny _ _ (holding [Value.builtin "object.__class__"] (call (.builtin "getset_descriptor.__get__") [.builtin "object.__class__", .ref x, .ref D]) >>= ret) _ _ _
  refine wpAny_bind (wpAny_holding (wpAny_call (class_get (s := ⟨hp, g, d, t + 1, os⟩) (ox := ox) (od := od) X I T.hm (wpAny_pure ?_))))
  show wpAny _ _ (handedOut (.ref D)) _ _ _
  rw [handedOut_of (v := .ref D) rfl]
  first
    | exact wpAny_pure (wpAny_pure h)
    | exact wpAny_pure h
    | exact wpAny_pure (wpAny_bind (wpAny_pure (wpAny_pure h)))
theorem kitx_err (T : ExcC K D) : KitX K (.ref x) (.ref D) (fun h => ∃ ox od, InstAt h x ox D od) where
  ty := fun _ _ _ ⟨_, _, I⟩ => I.type
  it := fun _ _ X _ => by
    obtain ⟨cd, hc, _⟩ := any_some T.hd
    unfold clsIn at hc
    split at hc
    · rename_i ho
      exact fun _ _ _ _ k q => by
        unfold isType loadHead
        exact wpAny_bind (wpAny_loadPart (k _ _ (X _ _ ho)) (wpAny_pure q))
    · cases hc
  ne := fun h tp dd its n sl X htp => by
    obtain ⟨cd, hc, _⟩ := any_some T.hd
    refine Bool.eq_false_iff.mpr fun q => ?_
    cases Value.ref.inj (beq_iff_eq.mp q)
    unfold clsIn at hc
    split at hc
    · rename_i ho
      cases (X _ _ ho).symm.trans htp
    · cases hc
  ca := fun X ⟨_, _, I⟩ k => clsAttr_exc T X I k
end
end DL

set_option Elab.async false
set_option linter.all false
set_option maxRecDepth 100000
set_option maxHeartbeats 4000000
/-! DL27: isinstance of any data. -/
namespace DL
open PySem PySem.Spec PyProof.Rows L2

/-- the name of the built-in type -/
def tyName : D → Option String
  | .non => some "NoneType"
  | .bl _ => some "bool"
  | .int _ => some "int"
  | .str _ => some "str"
  | .tup _ => some "tuple"
  | .lst _ _ => some "list"
  | .dic _ _ => some "dict"
  | _ => none
/-- what is known of the class u: the answers for built-in types, for held errors of own classes, for instances of own classes -/
structure IsTab (K : PySem.W.Frag) (mg : Str → Option Value) (u : Value) (bt : List (String × Bool)) (ct it : List (Str × Bool)) : Prop where
  ty : ∀ n b, bt.lookup n = some b → PySem.W.kitOne K (.type n) u = some b
  ow : ∀ n b, ct.lookup n = some b → ∀ C, mg n = some (.ref C) → ExcC K C ∧ PySem.W.kitOne K (.ref C) u = some b
  ins : ∀ n b, it.lookup n = some b → ∀ C, mg n = some (.ref C) → PySem.W.kitOne K (.ref C) u = some b ∧ Cls K C ∧ PySem.W.findIn K (.ref C) "__class__" = some (some (.builtin "object.__class__")) ∧
    PySem.W.specialIn K (.builtin "object.__class__") "__get__" = some (some (.builtin "getset_descriptor.__get__")) ∧ PySem.W.takesIn K (.builtin "object.__class__") = some true ∧ PySem.W.mroIn K C (.type "object") = some true
def isiD (bt : List (String × Bool)) (ct it : List (Str × Bool)) : D → Option D
  | .exc C _ => (ct.lookup C).map .bl
  | .ins _ C _ => (it.lookup C).map .bl
  | d => ((tyName d).bind fun n => bt.lookup n).map .bl
section
variable {X : Cx} {pins : List (Addr × Obj)} {σ : L2.St} {H : Hp} {s : Shared}
theorem dict_kit {a : Addr} (I : Inv X pins σ H s) (h : (∃ es, Rd H a (.dK es)) ∨ ∃ es, Rd H a (.dT es)) : ∃ P : Heap → Prop, PySem.W.KitX X.K (.ref a) (.type "dict") P ∧ P s.heap ∧ Value.ref a ≠ .builtin "__main__.__loader__#opaque" := by
  rcases h with ⟨es, h⟩ | ⟨es, h⟩
  · obtain ⟨_, _, vs, _, o, es, ep, h1, h2, _⟩ := (show ObjOk X.prog X.w H s.heap a (.dK es) from h.ok I.hok)
    exact ⟨_, PySem.W.kitx_dict, ⟨o, h1, h2.1⟩, fun z => nomatch z⟩
  · obtain ⟨_, _, xs, _, o, es, ep, h1, h2, _⟩ := (show ObjOk X.prog X.w H s.heap a (.dT es) from h.ok I.hok)
    exact ⟨_, PySem.W.kitx_dict, ⟨o, h1, h2.1⟩, fun z => nomatch z⟩
theorem kit_R {F : Addr → Prop} {v : V} {d : D} {fp : List Addr} {u : Value} {n : String} (I : Inv X pins σ H s) (rx : RelV v u) (r : R (gam X) F H v d fp) (e : tyName d = some n) : ∃ P : Heap → Prop, PySem.W.KitX X.K u (.type n) P ∧ P s.heap ∧ u ≠ .builtin "__main__.__loader__#opaque" := by
  cases r with
  | non => cases e; exact kit_of I rx (.base .non)
  | bl b => cases e; exact kit_of I rx (.base (.bl b))
  | int i => cases e; exact kit_of I rx (.base (.int i))
  | str x => cases e; exact kit_of I rx (.base (.str x))
  | tup h _ =>
    cases e
    rcases h with (h | ⟨o, h⟩) | ⟨o, _, _, h1, h2, _⟩
    · exact kit_of I rx (.base (.tup h))
    · exact kit_of I rx (.fTuple h)
    · exact kit_of I rx (.kTuple h1 h2)
  | lstO h _ => cases e; exact kit_of I rx (.base (.lst h))
  | lstF h _ =>
    cases e
    rcases h.sq with (h | ⟨o, h⟩) | ⟨o, _, _, h1, h2, _⟩
    · exact kit_of I rx (.base (.lst h))
    · exact kit_of I rx (.base (.frz h))
    · exact kit_of I rx (.kList h1 h2)
  | dicO h _ _ => cases e; cases (show u = Value.ref _ from rx); exact dict_kit I (.inl ⟨_, .inl h⟩)
  | dicF _ h _ _ => cases e; cases (show u = Value.ref _ from rx); exact dict_kit I (.inl ⟨_, h⟩)
  | ditO h _ _ _ => cases e; cases (show u = Value.ref _ from rx); exact dict_kit I (.inr ⟨_, .inl h⟩)
  | ditF _ h _ _ _ => cases e; cases (show u = Value.ref _ from rx); exact dict_kit I (.inr ⟨_, h⟩)
  | ref a => cases e
  | ty n => cases e
  | insO _ _ _ => cases e
  | insF _ _ _ _ => cases e
  | excF _ _ _ _ _ _ => cases e
  | excN _ _ _ => cases e
/-- isinstance(x, c) by data -/
def rIsD (G : Gam) (c : V) (bt : List (String × Bool)) (ct it : List (Str × Bool)) : List V → Hp → VK → Prop := fun xs H Q => ∃ F x d fp b, xs = [x, c] ∧ R G F H x d fp ∧ isiD bt ct it d = some (.bl b) ∧ Q (.bl b) H
theorem call_isD {c : V} {u : Value} {bt : List (String × Bool)} {ct it : List (Str × Bool)} (k : ClsV c u) (tb : IsTab X.K X.mg u bt ct it) : CallR X (.builtin "isinstance") (rIsD (gam X) c bt ct it) := by
  intro pins s σ H xs us Q I r h
  obtain ⟨F, x, d, fp, b, rfl, rd, e, q⟩ := h
  obtain ⟨u1, u2, rfl, r1, r2⟩ := vals2 r
  have e2 := k.eq r2
  subst e2
  have fin : ∀ t, (∃ P : Heap → Prop, PySem.W.KitX X.K u1 t P ∧ P s.heap ∧ u1 ≠ .builtin "__main__.__loader__#opaque") → PySem.W.kitOne X.K t u2 = some b → wpAny (model X.prog X.w) X.A (call (.builtin "isinstance") [u1, u2]) (fun u s' => ∃ v H', Inv X pins σ H' s' ∧ RelV v u ∧ Q v H') X.xe s := fun t ⟨P, Z, p, hx⟩ e => PySem.W.kia_one Z I.kIn p e hx fun tk => ⟨.bl b, H, I.tok tk, rfl, q⟩
  have base := fun n (h1 : tyName d = some n) (h2 : bt.lookup n = some b) => fin (.type n) (kit_R I r1 rd h1) (tb.ty n b h2)
  cases d with
  | exc C fs =>
    obtain ⟨b', h1, h2⟩ := Option.map_eq_some_iff.mp e
    cases h2
    cases rd with
    | excF f f2 hm ha hd _ =>
      obtain ⟨T, ek⟩ := tb.ow _ _ h1 _ hm
      cases (show u1 = Value.ref _ from r1)
      obtain ⟨t1, ho⟩ := exo_at I.hok ha
      obtain ⟨mA, ⟨o, es, ep, hod, hr⟩, _⟩ := exd_at I.hok hd
      exact fin _ ⟨_, kitx_err T, ⟨_, some o, ho, rfl, rfl, hod⟩, fun z => nomatch z⟩ ek
    | excN f hm ha =>
      obtain ⟨T, ek⟩ := tb.ow _ _ h1 _ hm
      cases (show u1 = Value.ref _ from r1)
      obtain ⟨t1, ho⟩ := exo_at I.hok ha
      exact fin _ ⟨_, kitx_err T, ⟨_, none, ho, rfl, rfl, True.intro⟩, fun z => nomatch z⟩ ek
  | ins uo C fs =>
    obtain ⟨b', h1, h2⟩ := Option.map_eq_some_iff.mp e
    cases h2
    cases rd with
    | insO hm ha _ =>
      obtain ⟨ek, t1, t2, t3, t4, t5⟩ := tb.ins _ _ h1 _ hm
      exact fin _ (kit_of I r1 (.base (.ins ha t1 t2 t3 t4 t5))) ek
    | insF _ hm ha _ =>
      obtain ⟨ek, t1, t2, t3, t4, t5⟩ := tb.ins _ _ h1 _ hm
      exact fin _ (kit_of I r1 (.base (.ins ha t1 t2 t3 t4 t5))) ek
  | set _ => cases e
  | ref _ => cases e
  | ty _ => cases e
  | _ =>
    obtain ⟨b', h1, h2⟩ := Option.map_eq_some_iff.mp e
    cases h2
    obtain ⟨n, h3, h4⟩ := Option.bind_eq_some_iff.mp h1
    exact base n h3 h4
theorem isiD_bl {bt : List (String × Bool)} {ct it : List (Str × Bool)} {d d' : D} (h : isiD bt ct it d = some d') : ∃ b, d' = .bl b := by
  cases d <;> first
    | (cases h; done)
    | (obtain ⟨b, _, h2⟩ := Option.map_eq_some_iff.mp h; exact ⟨b, h2.symm⟩)
/-- isinstance(e, c), quiet -/
theorem qf_isi {e ec : Expr} {p pos : Pos} {q : Env → Option D} {c : V} {u : Value} {bt : List (String × Bool)} {ct it : List (Str × Bool)} (hg : Gl X "isinstance") (hm : X.mg "isinstance" = none) (h : QR X e q) (hc : PE X ec (tC c)) (k : ClsV c u) (tb : IsTab X.K X.mg u bt ct it)
    (hst : starEach (e :: [ec]) X.env = (false, eval e X.env) :: starEach [ec] X.env := by rfl) (hpl : (backTo pos (starEach [ec] X.env)).any (·.1) = false := by rfl) (hs2 : starEach [ec] X.env = (false, eval ec X.env) :: starEach [] X.env := by rfl) :
    QF X (.Call (.Name "isinstance" p) [e, ec] [] pos) (qOp (lift1 (isiD bt ct it)) (q1 q)) :=
  ⟨(pe_callB (call_isD k tb) hg hm (by decide +kernel) (pa_cons h.pe (pa_cons hc pa_nil hs2) hst) (by decide) (by decide) hst hpl).weak fun σ H Q z => by
    obtain ⟨F, ρ, fp, w, e, d, hq, kz⟩ := z
    unfold qOp q1 qCons at hq
    cases hd : q ρ with
    | none => simp [hd] at hq
    | some d0 =>
      simp only [hd, qNil, lift1] at hq
      obtain ⟨b, rfl⟩ := isiD_bl hq
      exact ⟨F, ρ, fp, w, e, d0, hd, fun y F1 H1 fv fy E1 W1 e1 r m => ⟨F1, y, d0, fy, b, rfl, r, hq, kz _ F1 H1 [] (E1.less fun _ z => nomatch z) W1.left.nil (.bl b)⟩⟩⟩
end
end DL

set_option Elab.async false
set_option linter.all false
set_option maxRecDepth 100000
set_option maxHeartbeats 4000000
/-! DL28: a held error of a class without own __init__; the DE rules for both. -/
namespace DL
open PySem PySem.Spec PyProof.Rows L2
section
variable {X : Cx} {W : WX}
theorem pe_mkErr0 {C : Addr} {x : Str} {e : Expr} {ta : TE} {p pos : Pos} (hin : PySem.W.excIn X.K C veB "ValueError.__new__" = true) (gC : X.mg x = some (.ref C)) (kC : PySem.W.keepIn X.K (.ref C) = true) (hg : Gl X x)
    (he : PE X e ta) (hs : starEach [e] X.env = (false, eval e X.env) :: starEach [] X.env := by rfl) (hdb : (x == ("__debug__" : Str)) = false := by decide) :
    PE X (.Call (.Name x p) [e] [] pos) (fun σ H Q => ta σ H fun _ H1 => ∀ a, H1 a = none → Q (.ref a) (upd H1 a (exo a C none))) := by
  refine ⟨fun pins s σ H Q I h => wpAny_Call_Name_kw (ld_glob I hg gC (PySem.W.callWith_K (h₀ := X.base) I.ok.mod.kin kC ?_ hs (by rfl)) hdb)⟩
  rw [hs]
  refine Calls.spliced_cons (thn (he.run pins s σ H _ I h) fun u s1 ⟨v, H1, I1, r1, q1⟩ => Calls.spliced_nil ⟨I1.kIn, ?_⟩)
  show wpAny _ _ (call (.ref C) [u]) _ _ _
  obtain ⟨bm, N, nm, qn, bs, hdct, sn, sub, ab, col, dd, k0, k1, k2, k3, k5, mN, hC, hN, hni, T⟩ := exc_obj I1.kIn hin
  refine wpAny_call_exc_subT PySem.F.excBase_ValueError T hC hN hni (fun h' a hm => ?_) (by show 1 ≤ sizeLine; rw [sizeLine_eq]; omega)
  have hn : H1 a = none := I1.hok.gone hm.new
  obtain ⟨t, ht, _, _⟩ := hm.there
  exact ⟨.ref a, upd H1 a (exo a C none), I1.laidN hm.keeps hm.new hn (exo_ok ht), rfl, q1 a hn⟩
/-- C(e), nothing of e is held -/
def mkErr0D (Cn : Str) (f : Env → Res D) : Env → Res D := fun ρ => (f ρ).bind fun _ ρ' => .ok (.exc Cn []) ρ'
theorem ext_one {F : Addr → Prop} {H : Hp} {fp : List Addr} {a : Addr} {o : HO} (w : Wd F H fp) (ha : H a = none) : Ext F H fp (FF F [a]) (upd H a o) fp ∧ Wd (FF F [a]) (upd H a o) fp := by
  have nf : ∀ {b : Addr}, H b ≠ none → b ≠ a := fun {b} n z => n (by rw [z]; exact ha)
  have nn : ∀ b, H b ≠ none → upd H a o b ≠ none := fun b h => by rw [upd_ne (nf h)]; exact h
  refine ⟨⟨fun _ h => .inl h, fun b u h _ => .inl ?_, fun b h => .inl h, fun b h => ?_, nn⟩, ⟨w.nodup, fun b h z => ?_, fun b h => ?_, fun b h => ?_⟩⟩
  · rw [upd_ne (nf (b := b) (by rw [h]; exact fun z => nomatch z))]
    exact h
  · rcases h with h | h
    · exact .inl h
    · obtain rfl := List.mem_singleton.mp h
      exact .inr (.inr ha)
  · obtain ⟨u, e, _⟩ := w.own b h
    rcases z with z | z
    · exact w.ff b h z
    · exact nf (b := b) (by rw [e]; exact fun z => nomatch z) (List.mem_singleton.mp z)
  · obtain ⟨u, e, hu⟩ := w.own b h
    exact ⟨u, by rw [upd_ne (nf (b := b) (by rw [e]; exact fun z => nomatch z))]; exact e, hu⟩
  · rcases h with h | h
    · exact nn b (w.ft b h)
    · obtain rfl := List.mem_singleton.mp h
      rw [upd_same]
      exact fun z => nomatch z
theorem de_mkErr0 {C : Addr} {x : Str} {e : Expr} {f : Env → Res D} {p pos : Pos} (hin : PySem.W.excIn X.K C veB "ValueError.__new__" = true) (gC : X.mg x = some (.ref C)) (kC : PySem.W.keepIn X.K (.ref C) = true) (hg : Gl X x)
    (he : DE X W e f) (hs : starEach [e] X.env = (false, eval e X.env) :: starEach [] X.env := by rfl) (hdb : (x == ("__debug__" : Str)) = false := by decide) :
    DE X W (.Call (.Name x p) [e] [] pos) (mkErr0D x f) := ⟨(pe_mkErr0 hin gC kC hg he.pe hs hdb).weak fun σ H Q q => by
  obtain ⟨F, ρ, fp, w, e, p⟩ := q
  unfold mkErr0D at p
  refine ⟨F, ρ, fp, w, e, ?_⟩
  cases h1 : f ρ with
  | ok d ρ1 =>
    simp only [h1, Res.bind_ok] at p ⊢
    intro y F1 H1 fv fp1 E1 W1 e1 ry a na
    have Wr := W1.right
    obtain ⟨E3, W3⟩ := ext_one (o := exo a C none) Wr na
    obtain ⟨E5, W5⟩ := ext_one (o := exo a C none) Wr.nil na
    exact p (.ref a) _ _ [] fp1 ((E1.less fun b m => List.mem_append_right _ m).trans E3) W3 (e1.keep E5 Wr.nil fun b m => ⟨(fun z => nomatch z), Wr.ff b m⟩) (.excN (.inr (List.mem_cons_self ..)) gC upd_same)
  | err x ρ1 => simp only [h1, Res.bind_err] at p ⊢; exact p
  | stuck => simp only [h1, Res.bind_stuck] at p ⊢; exact False.elim p⟩
/-- what is known of a class whose __init__ is as in DL23 -/
structure MkErr (P : Program) (w : World) (K : PySem.W.Frag) (mg : Str → Option Value) (base : Heap) (x fl : Str) : Prop where
  ex : ∃ (C fI : Addr) (fd : FuncData) (ps : List Str), mg x = some (.ref C) ∧ OexC K C ∧ PySem.W.findIn K (.ref C) "__init__" = some (some (.ref fI)) ∧ PySem.W.typeIn K (.ref fI) = some (.type "function") ∧
    (∀ CX k, FnOk P w K mg base CX (k + 1) fI fd ps (spErr C fl)) ∧ Binds K fd ps []
theorem de_mkErr {k : Nat} {x fl : Str} {e : Expr} {f : Env → Res D} {p pos : Pos} (M : MkErr X.prog X.w X.K X.mg X.base x fl) (hr : Room (k + 2) X.A) (hg : Gl X x) (he : DE X W e f)
    (hdb : (x == ("__debug__" : Str)) = false := by decide) (hs : starEach [e] X.env = (false, eval e X.env) :: starEach [] X.env := by rfl) :
    DE X W (.Call (.Name x p) [e] [] pos) (mkErrD x fl f) := by
  obtain ⟨C, fI, fd, ps, gC, T, iC, tI, F1, hb⟩ := M.ex
  exact ⟨(pe_mkErr (CX := fun _ _ _ _ _ _ => False) T iC tI (F1 _ k) hr hb (fun _ _ _ _ _ _ _ z => z.elim) hg gC (pa_cons he.pe pa_nil hs) hdb hs (by rfl)).weak fun σ H Q q => wp_mkErr gC q⟩
end
end DL

set_option Elab.async false
set_option linter.all false
set_option maxRecDepth 100000
set_option maxHeartbeats 4000000
/-! DL29: C(x = e), C an own error. -/
namespace DL
open PySem PySem.Spec PyProof.Rows L2
section
variable {prog : Program} {w : World} {A : Around} {E : Value → Shared → Prop} {R : Result → Shared → Prop} {h : Heap} {g : Array GenState} {d : Drawn} {t : Nat} {os : OsState}
variable {nm q : Str} {C N : Addr} {bs bm : List Value} {hdct : Bool} {sn : List Str} {sub : List Value} {ab : Bool} {col : Option Bool} {dd : Option Addr} {k0 k1 k2 k3 k5 : Option Value} {kw : List (Str × Value)}
abbrev veCls (nm q : Str) (C N : Addr) (bs bm : List Value) (hdct : Bool) (sn : List Str) (sub : List Value) (ab : Bool) (col : Option Bool) (dd : Option Addr) (k0 k1 k2 k3 k5 : Option Value) : Obj := excClassObj nm q C N bs bm hdct sn sub ab col dd k0 k1 k2 k3 k5 "ValueError.__new__"
theorem kw_check (hT : ∀ X : String, bm.contains (.type X) = veB.contains (.type X)) {Q : Unit → Shared → Prop} (hC : h.get? C = some (veCls nm q C N bs bm hdct sn sub ab col dd k0 k1 k2 k3 k5)) (hq : Q () ⟨h, g, d, t, os⟩) :
    wpAny (model prog w) A (checkBuiltinCall "ValueError.__new__" ⟨[.ref C], kw⟩) Q E ⟨h, g, d, t, os⟩ := by
  have hcont : (Value.ref C :: bm).contains (.type "ValueError") = true := by rw [List.contains_cons, hT, show veB.contains (.type "ValueError") = true by decide +kernel, Bool.or_true]
  simp only [checkBuiltinCall, PySem.F.excBase_ValueError.newKind, PySem.F.excBase_ValueError.newSplit, PySem.F.excBase_ValueError.newRow]
  repeat (first
    | refine wpAny_loadPart_at hC ?_
    | (refine wpAny_isSubtype_exc hC ?_; rw [hcont])
    | refine wpAny_staticBase_exc hC ?_ | refine wpAny_madeBy_exc hC ?_
    | simp only [bne_self_eq_false, Bool.false_eq_true, if_false]
    | wp_step)
  all_goals exact hq
theorem kw_new (hT : ∀ X : String, bm.contains (.type X) = veB.contains (.type X)) (hC : h.get? C = some (veCls nm q C N bs bm hdct sn sub ab col dd k0 k1 k2 k3 k5))
    (hq : R (.ok (.ret (.ref (h.objs.size + 1)))) ⟨(h.push (PySem.W.kdv_tup [])).push (PySem.HandSPX.excO C h.objs.size), g, d, t, os⟩) :
    codeAny (model prog w) A (.builtin "ValueError.__new__" ⟨[.ref C], kw⟩) R ⟨h, g, d, t, os⟩ := by
  have hcB : (Value.ref C :: bm).contains (.type "ValueError") = true := by rw [List.contains_cons, hT, show veB.contains (.type "ValueError") = true by decide +kernel, Bool.or_true]
  have hcA : (Value.ref C :: bm).contains (.type "AttributeError") = false := by rw [List.contains_cons, hT]; rfl
  have hcN : (Value.ref C :: bm).contains (.type "NameError") = false := by rw [List.contains_cons, hT]; rfl
  have FB := PySem.F.excBase_ValueError
  have hends := FB.ends
  refine codeAny_builtinAt FB.entry ?_
  unfold Builtin.«BaseException.__new__»
  refine PySem.wpAt_bind ?_
  show PySem.wpAt _ _ _ (stack >>= _) _ _ _
  refine PySem.wpAt_bind (PySem.wpAt_stack fun p below => PySem.wpAt_of_wpAny ?_)
  wp_walk
  refine PySem.wpAt_of_wpAny ?_
  rw [FB.owner]
  repeat (first
    | with_reducible refine wpAny_madeHere_exc FB.canon hC ?_
    | with_reducible refine wpAny_loadPart_at hC ?_
    | (with_reducible refine wpAny_isSubtype_exc hC ?_; first | rw [hcB] | rw [hcA] | rw [hcN])
    | wp_step)
  all_goals
    show R _ _
    rw [Heap.size_push]
    exact hq
theorem kw_tcheck {Q : Unit → Shared → Prop} (hC : h.get? C = some (veCls nm q C N bs bm hdct sn sub ab col dd k0 k1 k2 k3 k5)) (hq : Q () ⟨h, g, d, t, os⟩) : wpAny (model prog w) A (checkBuiltinCall "type.__call__" ⟨[.ref C], kw⟩) Q E ⟨h, g, d, t, os⟩ := by
  have sub := tc_sub
  have isT : (⟨h, g, d, t, os⟩ : Shared).TypeIs (.ref C) "type" := ⟨_, hC, rfl⟩
  simp only [checkBuiltinCall, tc_kind, tc_split]
  repeat (any_goals (first
    | assumption
    | with_reducible refine wpAny_loadPart_at hC ?_
    | with_reducible refine wpAny_onRaise ?_
    | with_reducible refine wpAny_map ?_
    | wp_step))
theorem kw_tcall {fI : Addr} {Q : PySem.Fin → Shared → Prop} (hT : ∀ X : String, bm.contains (.type X) = veB.contains (.type X)) (hC : h.get? C = some (veCls nm q C N bs bm hdct sn sub ab col dd k0 k1 k2 k3 k5))
    (hi : PySem.W.Looks (model prog w) h (typeLookup (.ref C) "__init__") (some (.ref fI))) (hb : ∀ self, PySem.W.Looks (model prog w) h (bindSpecial (.ref fI) self) (.ref fI, [self]))
    (hq : codeAny (model prog w) A (.call (.ref fI) ⟨[.ref (h.objs.size + 1)], kw⟩)
      (fun r s' => match r with | .ok (.ret v) => v = .none ∧ Q (.done (.ret (.ref (h.objs.size + 1)))) s' | .ok _ => False | .error e => E e s')
      ⟨(h.push (PySem.W.kdv_tup [])).push (PySem.HandSPX.excO C h.objs.size), g, d, t, os⟩) :
    wpAny (model prog w) A (Builtin.«type.__call__» ⟨[.ref C], kw⟩) Q E ⟨h, g, d, t, os⟩ := by
  repeat (first | with_reducible refine wpAny_loadPart_at hC ?_ | with_reducible refine wpAny_madeBy_exc hC ?_ | wp_step)
  refine codeAny_call_builtin_code (Code.quiet_builtin _ PySem.F.excBase_ValueError.quiet) (kw_check hT hC (kw_new hT hC ?_))
  show wpAny _ _ _ _ _ _
  have kk : ∀ b o, h.get? b = some o → ((h.push (PySem.W.kdv_tup [])).push (PySem.HandSPX.excO C h.objs.size)).get? b = some o := fun b o z => Heap.get?_push_of_some _ (Heap.get?_push_of_some _ z)
  have hC1 := kk _ _ hC
  have got : ((h.push (PySem.W.kdv_tup [])).push (PySem.HandSPX.excO C h.objs.size)).get? (h.objs.size + 1) = some (PySem.HandSPX.excO C h.objs.size) := by heap_get
  have own : (Value.ref C :: bm).contains (.ref C) = true := by simp
  have i1 := hi.keeps kk
  have b1 := (hb (.ref (h.objs.size + 1))).keeps kk
  unfold isInstance
  repeat (first
    | with_reducible refine wpAny_loadPart_at got ?_
    | (with_reducible refine wpAny_isSubtype_exc hC1 ?_; rw [own])
    | wp_step)
  show wpAny _ _ (typeLookup (.ref C) _) _ _ _
  refine i1.at (wpAny_holding (wpAny_bind (b1.at (wpAny_bind (wpAny_call (codeAny_mono hq fun r s' z => ?_))))))
  rcases r with e | (v | _ | _ | _) <;> first | exact z | exact z.elim | skip
  obtain ⟨rfl, z⟩ := z
  first
    | exact wpAny_pure (wpAny_pure z)
    | (wp_walk; exact z)
theorem kw_call {fI : Addr} (hT : ∀ X : String, bm.contains (.type X) = veB.contains (.type X)) (hC : h.get? C = some (veCls nm q C N bs bm hdct sn sub ab col dd k0 k1 k2 k3 k5))
    (hi : PySem.W.Looks (model prog w) h (typeLookup (.ref C) "__init__") (some (.ref fI))) (hb : ∀ self, PySem.W.Looks (model prog w) h (bindSpecial (.ref fI) self) (.ref fI, [self]))
    (hq : codeAny (model prog w) (A.under (.builtin "type.__call__" ⟨[.ref C], kw⟩)) (.call (.ref fI) ⟨[.ref (h.objs.size + 1)], kw⟩) (PySem.W.InitBack (h.objs.size + 1) R) ⟨(h.push (PySem.W.kdv_tup [])).push (PySem.HandSPX.excO C h.objs.size), g, d, t, os⟩) :
    codeAny (model prog w) A (.call (.ref C) ⟨[], kw⟩) R ⟨h, g, d, t, os⟩ := by
  have f1 := tc_lookup
  have f2 := tc_bind (.ref C)
  have hTy : (⟨h, g, d, t, os⟩ : Shared).TypeIs (.ref C) "type" := ⟨_, hC, rfl⟩
  refine codeAny_of_tree ?_
  show wpAny _ _ (callAny (.ref C) _) _ _ _
  repeat (any_goals (first | assumption | with_reducible refine wpAny_loadPart_at hC ?_ | wp_step))
  refine ⟨rfl, codeAny_call_builtin_at (Code.quiet_builtin _ (by decide +kernel)) entry_typeCall (kw_tcheck hC (kw_tcall hT hC hi hb (codeAny_mono hq fun r s' z => ?_)))⟩
  rcases r with e | (v | _ | _ | _) <;> exact z
end
end DL

set_option Elab.async false
set_option linter.all false
set_option maxRecDepth 100000
set_option maxHeartbeats 4000000
/-! DL30: C(x = e), C an own error: the rule. -/
namespace DL
open PySem PySem.Spec PyProof.Rows L2
section
variable {X : Cx} {W : WX} {e : Expr} {p pos kpos : Pos} {ta : TA}
theorem pe_mkErrK {CX : CXT} {x kn : Str} {C fI : Addr} {k : Nat} {fd : FuncData} {ps : List Str} {fl : Str} {kws : List Keyword} (T : OexC X.K C) (iC : PySem.W.findIn X.K (.ref C) "__init__" = some (some (.ref fI))) (tI : PySem.W.typeIn X.K (.ref fI) = some (.type "function"))
    (F1 : FnOk X.prog X.w X.K X.mg X.base CX k fI fd ps (spErr C fl)) (hr : Room (k + 1) X.A) (hb : ∀ (s : Shared) (u0 u : Value), X.K.In s.heap → BindsTo s fd ⟨[u0], [(kn, u)]⟩ (ps.zip [u0, u])) (hx : Passes CX X (fun _ _ _ => False)) (hg : Gl X x) (hm : X.mg x = some (.ref C)) (hkw : PK X kws ta)
    (hall : (backToKw pos (keywordEach kws X.env)).all (·.1.isSome) = true := by rfl) (hks : (backToKw pos (keywordEach kws X.env)).filterMap (·.1) = [kn] := by rfl) (hdb : (x == ("__debug__" : Str)) = false := by decide)
    (hpl : ((backTo pos (starEach [] X.env)).any (·.1) || (backToKw pos (keywordEach kws X.env)).any (·.1.isNone)) = false := by rfl) :
    PE X (.Call (.Name x p) [] kws pos) (tMkE C fl ta) := by
  refine ⟨fun pins s σ H Q I h => ?_⟩
  obtain ⟨nm, q, N, bs, bm, sn, sub, ab, col, dd, k0, k1, k2, k3, k5, hC, hbm⟩ := T.cls
  refine wpAny_Call_Name_kw (ld_glob I hg hm (PySem.W.callWith_KW0 (h₀ := X.base) I.ok.mod.kin T.kC hall ?_ hpl) hdb)
  refine thn (hkw.run pos pins s σ H _ I h) fun us s1 ⟨vs, H1, I1, r1, y, ev, q1⟩ => ⟨I1.kIn, ?_⟩
  subst ev
  rw [hks]
  cases r1 with
  | @cons _ u _ ur ry rr =>
  cases rr
  show wpAny _ _ (call (.ref C) [] [(kn, u)]) _ _ _
  obtain ⟨hp, g, dr, tk, os⟩ := s1
  have big : hp.objs.size ≤ hp.objs.size + 1 := Nat.le_add_right _ 1
  have fresh : H1 (hp.objs.size + 1) = none := I1.hok.fresh big
  have kk : ∀ b o, hp.get? b = some o → ((hp.push (PySem.W.kdv_tup [])).push (PySem.HandSPX.excO C hp.objs.size)).get? b = some o := fun b o z => Heap.get?_push_of_some _ (Heap.get?_push_of_some _ z)
  have got : ((hp.push (PySem.W.kdv_tup [])).push (PySem.HandSPX.excO C hp.objs.size)).get? (hp.objs.size + 1) = some (PySem.HandSPX.excO C hp.objs.size) := by heap_get
  have I2 : Inv X pins σ (upd H1 (hp.objs.size + 1) (exo (hp.objs.size + 1) C none)) ⟨(hp.push (PySem.W.kdv_tup [])).push (PySem.HandSPX.excO C hp.objs.size), g, dr, tk, os⟩ :=
    I1.laid (t' := tk) (a := hp.objs.size + 1) (o := exo (hp.objs.size + 1) C none) (h' := ((hp.push (PySem.W.kdv_tup [])).push (PySem.HandSPX.excO C hp.objs.size))) kk big (exo_ok got)
  have r2 : Vals [V.ref (hp.objs.size + 1), y] [Value.ref (hp.objs.size + 1), u] := .cons rfl (.cons ry .nil)
  have hq : spErr C fl [V.ref (hp.objs.size + 1), y] (upd H1 (hp.objs.size + 1) (exo (hp.objs.size + 1) C none)) (fun v H2 => v = .non ∧ ∃ dx, H1 dx = none ∧ dx ≠ hp.objs.size + 1 ∧ H2 = upd (upd H1 dx (exd dx [(fl, y)])) (hp.objs.size + 1) (exo (hp.objs.size + 1) C (some dx))) (fun _ _ _ => False) := by
    refine ⟨_, _, rfl, upd_same, fun dx n ne => ⟨rfl, dx, ?_, ne, ?_⟩⟩
    · rw [upd_ne ne] at n
      exact n
    · rw [upd3 ne]
  refine wpAny_call (kw_call (fun Y => PySem.HandSPX.refsVE_contains Y bm hbm) (I1.kIn _ _ hC) (PySem.W.looks_findIn I1.kIn iC) (fun self => PySem.W.bind_fn I1.kIn self tI)
    (codeAny_mono (F1.run _ X.stack _ _ ⟨[Value.ref (hp.objs.size + 1)], [(kn, u)]⟩ [Value.ref (hp.objs.size + 1), u] _ _ _ (hr.make C [] [(kn, u)]) (I2.env0.make C [] [(kn, u)]) (hb _ _ _ I2.kIn) r2 hq) fun r s' hq' => ?_))
  cases r with
  | error er => exact hx pins σ _ _ er s' I2 hq'
  | ok fl' =>
    cases fl' with
    | ret u' =>
      obtain ⟨v, H2, os2, bare2, un2, hok2, rv, ev, dx, n, ne, e2⟩ := hq'
      subst ev e2
      obtain ⟨h2, g2, d2, t2, os'⟩ := s'
      have nha : ∀ {b : Addr} {o : Obj}, hp.get? b = some o → b ≠ hp.objs.size + 1 := fun {b o} z => Nat.ne_of_lt (Nat.lt_of_lt_of_le (Heap.lt_size z) big)
      have U : Un (frs X.stack) [] H1 (upd (upd H1 dx (exd dx [(fl, y)])) (hp.objs.size + 1) (exo (hp.objs.size + 1) C (some dx))) hp h2 := {
        keep := fun b o z n hf hx => un2.keep b o (kk b o z) (by rw [upd_ne (nha z)]; exact n) hf hx
        slot := fun b o z n hf hx => un2.slot b o (kk b o z) (by rw [upd_ne (nha z)]; exact n) hf hx
        free := fun b o z n hx => un2.free b o (kk b o z) (by rw [upd_ne (nha z)]; exact n) hx
        there := fun b o z hx => un2.there b o (kk b o z) hx
        tups := fun b xs z => un2.tups b xs (by rw [upd_ne (ne_of_none z fresh)]; exact z)
        frzs := fun b o v z => un2.frzs b o v (by rw [upd_ne (ne_of_none z fresh)]; exact z)
        tbls := fun b ps z => un2.tbls b ps (by rw [upd_ne (ne_of_none z fresh)]; exact z) }
      exact ⟨rv, ⟨_, _, I1.call' (ch := []) os2 U hok2 bare2 (fun b z => absurd z (by simp)), by rfl, q1 _ dx fresh n ne⟩⟩
    | next => exact False.elim hq'
    | brk => exact False.elim hq'
    | cont => exact False.elim hq'
/-- what more is known for the call by keyword -/
structure MkErrK (P : Program) (w : World) (K : PySem.W.Frag) (mg : Str → Option Value) (base : Heap) (x kn fl : Str) : Prop where
  ex : ∃ (C fI : Addr) (fd : FuncData) (ps : List Str), mg x = some (.ref C) ∧ OexC K C ∧ PySem.W.findIn K (.ref C) "__init__" = some (some (.ref fI)) ∧ PySem.W.typeIn K (.ref fI) = some (.type "function") ∧
    (∀ CX k, FnOk P w K mg base CX (k + 1) fI fd ps (spErr C fl)) ∧ ∀ (s : Shared) (u0 u : Value), K.In s.heap → BindsTo s fd ⟨[u0], [(kn, u)]⟩ (ps.zip [u0, u])
theorem de_mkErrK {k : Nat} {x kn fl : Str} {f : Env → Res D} (M : MkErrK X.prog X.w X.K X.mg X.base x kn fl) (hr : Room (k + 2) X.A) (hg : Gl X x) (he : DE X W e f)
    (hall : (backToKw pos (keywordEach [⟨some kn, e, kpos⟩] X.env)).all (·.1.isSome) = true := by rfl) (hks : (backToKw pos (keywordEach [⟨some kn, e, kpos⟩] X.env)).filterMap (·.1) = [kn] := by rfl) (hdb : (x == ("__debug__" : Str)) = false := by decide)
    (hpl : ((backTo pos (starEach [] X.env)).any (·.1) || (backToKw pos (keywordEach [⟨some kn, e, kpos⟩] X.env)).any (·.1.isNone)) = false := by rfl) :
    DE X W (.Call (.Name x p) [] [⟨some kn, e, kpos⟩] pos) (mkErrD x fl f) := by
  obtain ⟨C, fI, fd, ps, gC, T, iC, tI, F1, hb⟩ := M.ex
  exact ⟨(pe_mkErrK (CX := fun _ _ _ _ _ _ => False) T iC tI (F1 _ k) hr hb (fun _ _ _ _ _ _ _ z => z.elim) hg gC (pk_cons he.pe pk_nil) hall hks hdb hpl).weak fun σ H Q q => wp_mkErr gC q⟩
end
end DL

set_option Elab.async false
set_option linter.all false
set_option maxRecDepth 100000
set_option maxHeartbeats 4000000
/-! DL31: for i, x in enumerate(list). -/
namespace DL
open PySem PySem.Spec PyProof.Rows L2

/-- the pairs of the places and the items -/
def enumL (ds : List D) : List D := ds.zipIdx.map fun p => .tup [.int (p.2 : Nat), p.1]
theorem enumL_at {ds : List D} {i : Nat} {d : D} (h : (enumL ds)[i]? = some d) : ∃ x, ds[i]? = some x ∧ d = .tup [.int (i : Nat), x] := by
  unfold enumL at h
  rw [List.getElem?_map, List.getElem?_zipIdx] at h
  cases hx : ds[i]? with
  | none => simp [hx] at h
  | some x =>
    simp only [hx, Option.map_some, Nat.zero_add, Option.some.injEq] at h
    exact ⟨x, rfl, h.symm⟩
theorem enumL_length {ds : List D} : (enumL ds).length = ds.length := by simp [enumL]
section
variable {G : Gam} {F : Addr → Prop} {H : Hp} {fp : List Addr}
theorem wlk_enum {a : Addr} {vs : List V} {ds : List D} (hl : ds.length ≤ sizeLine) : Wlk G [] (enumL ds) (Ite G.K a) (fun F H => SqLF G.K F H a vs ∧ Rs G F H vs ds []) where
  keep := fun F H g F' H' g' ⟨s, r⟩ w E => ⟨SqLF.ext s E w, r.keep E w fun _ m => nomatch m⟩
  go := fun F H i d ⟨s, r⟩ h => by
    obtain ⟨x, h1, _⟩ := enumL_at h
    obtain ⟨v, e, _⟩ := r.get h1
    exact ⟨vs, v, s.sq, e⟩
  yld := fun F H fp i d y H' ⟨s, r⟩ w h hy => by
    obtain ⟨T, x, rfl, hT, rfl, hx⟩ := hy
    obtain ⟨d0, h1, rfl⟩ := enumL_at h
    obtain ⟨v, e, rv⟩ := r.get h1
    have := hx vs s.sq
    rw [e] at this
    cases this
    refine ⟨ext_new hT, wd_new w hT, .tup (.inl (.inl upd_same)) (.cons (f1 := []) (f2 := []) (.int _) (.cons (f1 := []) (f2 := []) (rv.keep (ext_new hT) w.nil fun _ m => nomatch m) .nil))⟩
  stop := fun F H ⟨s, r⟩ => ⟨vs, s.sq, by rw [r.length, enumL_length]; exact Nat.le_refl _⟩
  len := by rw [enumL_length]; exact hl
end
def enD : D → Option (List D)
  | .lst _ xs => if xs.length ≤ sizeLine then some (enumL (frzs xs)) else none
  | _ => none
theorem enD_inv {d : D} {its : List D} (h : enD d = some its) : ∃ u xs, d = .lst u xs ∧ xs.length ≤ sizeLine ∧ its = enumL (frzs xs) := by
  cases d <;> try (cases h; done)
  rename_i u xs
  simp only [enD] at h
  split at h
  · rename_i hz
    cases h
    exact ⟨u, xs, rfl, hz, rfl⟩
  · cases h
def srcEn (f : Env → Res D) : Env → Res (List D) := fun ρ => (f ρ).bind fun d ρ' => match enD d with
  | some its => .ok its ρ'
  | none => .stuck
theorem frzs_length : ∀ xs : List D, (frzs xs).length = xs.length
  | [] => rfl
  | x :: xs => by rw [frzs, List.length_cons, List.length_cons, frzs_length xs]
theorem di_enum {X : Cx} {W : WX} {e : Expr} {f : Env → Res D} {p pos tpos : Pos} {elts : List Expr} {kk : Nat} (hg : Gl X "enumerate") (hm : X.mg "enumerate" = none) (h : DE X W e f) (hs : starEach [e] X.env = [(false, eval e X.env)] := by rfl) :
    DI X W (.Tuple elts kk tpos) (.Call (.Name "enumerate" p) [e] [] pos) (srcEn f) := ⟨(pi_enum hg hm (pa_cons h.pe pa_nil hs) hs).weak fun σ H Q q => by
  obtain ⟨F, ρ, fp, w, e, p⟩ := q
  refine ⟨F, ρ, fp, w, e, ?_⟩
  unfold srcEn at p
  cases h1 : f ρ with
  | ok d ρ1 =>
    simp only [h1, Res.bind_ok] at p ⊢
    intro v F1 H1 fv fp1 E1 W1 R1 r1
    cases h2 : enD d with
    | none => simp only [h2] at p
    | some its =>
      simp only [h2] at p
      obtain ⟨u, xs, rfl, hz, rfl⟩ := enD_inv h2
      have r2 : R (gam X) (FF F1 fv) H1 v (.lst false (frzs xs)) [] := by
        have z := r1.freeze (g := fv) fun _ m => m
        rwa [frz] at z
      cases r2 with
      | lstF hq rs =>
        exact ⟨_, _, rfl, hq.sq, p _ _ _ H1 [] fp1 (E1.trans (Ext.freeze W1)) W1.freeze (R1.mono fun _ z => Or.inl z) (wlk_enum (by rw [frzs_length]; exact hz)) ⟨hq, rs⟩⟩
  | err e ρ1 => simp only [h1, Res.bind_err] at p ⊢; exact p
  | stuck => simp only [h1, Res.bind_stuck] at p⟩
end DL

set_option Elab.async false
set_option linter.all false
set_option maxRecDepth 100000
set_option maxHeartbeats 4000000
/-! DL32: repr of data. -/
namespace DL
open PySem PySem.Spec PyProof.Rows L2

/-- what stands at sys.modules is a dict -/
def SysD (h : Heap) : Prop := ∃ o, h.get? sysModules = some o ∧ o.cls = .type "dict"
theorem ne_sys {h : Heap} (hS : SysD h) {a : Addr} {o : Obj} (ho : h.get? a = some o) (hc : o.cls = .type "list") : sysModules ≠ a := fun z => by
  obtain ⟨o', h1, h2⟩ := hS
  rw [z, ho] at h1
  cases h1
  rw [hc] at h2
  exact absurd h2 (by decide)
theorem kPys_as {h : Heap} : ∀ {ks : List Key} {us : List Value} {as : List Addr}, ReadsAll h us (ks.map kPy) as → as = []
  | [], _, _, r => by cases r; rfl
  | k :: ks, _, _, r => by
    rw [List.map_cons] at r
    cases r with
    | cons r1 r2 =>
      rw [kPys_as r2]
      cases k <;> (cases r1; rfl)
theorem keys_as {h : Heap} : ∀ {es : List (DKey × V)} {us : List Value} {as : List Addr}, ReadsAll h us (es.map fun p => keyPy p.1) as → as = []
  | [], _, _, r => by cases r; rfl
  | (.inl k, v) :: es, _, _, r => by
    rw [List.map_cons] at r
    cases r with
    | cons r1 r2 =>
      rw [keys_as r2]
      cases k <;> (cases r1; rfl)
  | (.inr ks, v) :: es, _, _, r => by
    rw [List.map_cons] at r
    cases r with
    | cons r1 r2 =>
      rw [keys_as r2]
      cases r1 with
      | tuple _ _ _ rs => rw [kPys_as rs]; rfl
section
variable {X : Cx} {pins : List (Addr × Obj)} {σ : L2.St} {H : Hp} {s : Shared} {F : Addr → Prop}
mutual
theorem R.readsS (hS : SysD s.heap) (I : Inv X pins σ H s) : ∀ {v : V} {d : D} {fp : List Addr}, R (gam X) F H v d fp → ∀ (u : Value) (p : PyData), RelV v u → toPy d = some p → ∃ as, Reads s.heap u p as ∧ sysModules ∉ as
  | _, _, _, .non, u, p, r, e => by cases e; cases r; exact ⟨_, .none, by simp⟩
  | _, _, _, .bl b, u, p, r, e => by cases e; cases r; exact ⟨_, .bool b, by simp⟩
  | _, _, _, .int i, u, p, r, e => by cases e; obtain ⟨t, rfl⟩ := r; exact ⟨_, .int i t, by simp⟩
  | _, _, _, .str z, u, p, r, e => by cases e; obtain ⟨t, rfl⟩ := r; exact ⟨_, .str z t, by simp⟩
  | _, _, _, .ref a, u, p, r, e => by cases e
  | _, _, _, .ty n, u, p, r, e => by cases e
  | _, _, _, .tup hs rs, u, p, r, e => by
    obtain ⟨ps, e1, rfl⟩ := Option.map_eq_some_iff.mp e
    cases r
    obtain ⟨its, rv, ⟨o, ho, hc, n, hd⟩, _⟩ := I.tuple hs
    obtain ⟨as, hr, hN⟩ := Rs.readsS hS I rs its ps rv e1
    exact ⟨_, .tuple ho hc hd hr, hN⟩
  | _, _, _, .lstO hs rs, u, p, r, e => by
    obtain ⟨ps, e1, rfl⟩ := Option.map_eq_some_iff.mp e
    cases r
    obtain ⟨its, rv, ⟨o, n, ho, hc, _, hd⟩, _⟩ := I.list (SqL.of hs)
    obtain ⟨as, hr, hN⟩ := Rs.readsS hS I rs its ps rv e1
    exact ⟨_, .list ho hc hd hr, by simp [hN, ne_sys hS ho hc]⟩
  | _, _, _, .lstF hs rs, u, p, r, e => by
    obtain ⟨ps, e1, rfl⟩ := Option.map_eq_some_iff.mp e
    cases r
    obtain ⟨its, rv, ⟨o, n, ho, hc, _, hd⟩, _⟩ := I.list hs.sq
    obtain ⟨as, hr, hN⟩ := Rs.readsS hS I rs its ps rv e1
    exact ⟨_, .list ho hc hd hr, by simp [hN, ne_sys hS ho hc]⟩
  | _, _, _, .dicO h re _, u, p, r, e => by
    obtain ⟨ps, e1, rfl⟩ := Option.map_eq_some_iff.mp e
    cases r
    obtain ⟨hne, _, o, des, ep, ho, hex, hd, hv, as, hk⟩ := dict_at I (.inl ⟨_, .inl h, rfl⟩)
    have has := keys_as hk
    subst has
    obtain ⟨bs, h2, hN⟩ := Re.readsS hS I re _ ps hv e1
    have hl := toPyE_len e1
    refine ⟨_, .dict (kvs := (_ : List PyData).zip ps) ho hex.1 hd (as := []) (bs := bs) ?_ ?_, by simp [hN]; exact fun z => by rw [z] at hne; simp at hne⟩
    · rw [List.map_fst_zip (by simp [hl])]
      have e3 := congrArg (List.map keyPy) re.keys
      simp only [List.map_map] at e3 hk ⊢
      have e4 : _ = _ := e3
      simp only [Function.comp_def] at e4 hk ⊢
      rw [e4]
      exact hk
    · rw [List.map_snd_zip (by simp [hl])]
      exact h2
  | _, _, _, .dicF _ h re _, u, p, r, e => by
    obtain ⟨ps, e1, rfl⟩ := Option.map_eq_some_iff.mp e
    cases r
    obtain ⟨hne, _, o, des, ep, ho, hex, hd, hv, as, hk⟩ := dict_at I (.inl ⟨_, h, rfl⟩)
    have has := keys_as hk
    subst has
    obtain ⟨bs, h2, hN⟩ := Re.readsS hS I re _ ps hv e1
    have hl := toPyE_len e1
    refine ⟨_, .dict (kvs := (_ : List PyData).zip ps) ho hex.1 hd (as := []) (bs := bs) ?_ ?_, by simp [hN]; exact fun z => by rw [z] at hne; simp at hne⟩
    · rw [List.map_fst_zip (by simp [hl])]
      have e3 := congrArg (List.map keyPy) re.keys
      simp only [List.map_map] at e3 hk ⊢
      have e4 : _ = _ := e3
      simp only [Function.comp_def] at e4 hk ⊢
      rw [e4]
      exact hk
    · rw [List.map_snd_zip (by simp [hl])]
      exact h2
  | _, _, _, .ditO h re _ _, u, p, r, e => by
    obtain ⟨ps, e1, rfl⟩ := Option.map_eq_some_iff.mp e
    cases r
    obtain ⟨hne, _, o, des, ep, ho, hex, hd, hv, as, hk⟩ := dict_at I (.inr ⟨_, .inl h, rfl⟩)
    have has := keys_as hk
    subst has
    obtain ⟨bs, h2, hN⟩ := Re.readsS hS I re _ ps hv e1
    have hl := toPyE_len e1
    refine ⟨_, .dict (kvs := (_ : List PyData).zip ps) ho hex.1 hd (as := []) (bs := bs) ?_ ?_, by simp [hN]; exact fun z => by rw [z] at hne; simp at hne⟩
    · rw [List.map_fst_zip (by simp [hl])]
      have e3 := congrArg (List.map keyPy) re.keys
      simp only [List.map_map] at e3 hk ⊢
      have e4 : _ = _ := e3
      simp only [Function.comp_def] at e4 hk ⊢
      rw [e4]
      exact hk
    · rw [List.map_snd_zip (by simp [hl])]
      exact h2
  | _, _, _, .ditF _ h re _ _, u, p, r, e => by
    obtain ⟨ps, e1, rfl⟩ := Option.map_eq_some_iff.mp e
    cases r
    obtain ⟨hne, _, o, des, ep, ho, hex, hd, hv, as, hk⟩ := dict_at I (.inr ⟨_, h, rfl⟩)
    have has := keys_as hk
    subst has
    obtain ⟨bs, h2, hN⟩ := Re.readsS hS I re _ ps hv e1
    have hl := toPyE_len e1
    refine ⟨_, .dict (kvs := (_ : List PyData).zip ps) ho hex.1 hd (as := []) (bs := bs) ?_ ?_, by simp [hN]; exact fun z => by rw [z] at hne; simp at hne⟩
    · rw [List.map_fst_zip (by simp [hl])]
      have e3 := congrArg (List.map keyPy) re.keys
      simp only [List.map_map] at e3 hk ⊢
      have e4 : _ = _ := e3
      simp only [Function.comp_def] at e4 hk ⊢
      rw [e4]
      exact hk
    · rw [List.map_snd_zip (by simp [hl])]
      exact h2
  | _, _, _, .insO _ _ _, u, p, r, e => by cases e
  | _, _, _, .insF _ _ _ _, u, p, r, e => by cases e
theorem Rs.readsS (hS : SysD s.heap) (I : Inv X pins σ H s) : ∀ {v : List V} {d : List D} {fp : List Addr}, Rs (gam X) F H v d fp → ∀ (u : List Value) (p : List PyData), Vals v u → toPys d = some p → ∃ as, ReadsAll s.heap u p as ∧ sysModules ∉ as
  | _, _, _, .nil, u, p, r, e => by cases e; cases r; exact ⟨_, .nil, by simp⟩
  | _, _, _, .cons a t, u, p, r, e => by
    simp only [toPys] at e
    split at e
    · rename_i y ys h1 h2
      cases e
      cases r with
      | cons r1 r2 =>
        obtain ⟨as, q1, n1⟩ := R.readsS hS I a _ y r1 h1
        obtain ⟨bs, q2, n2⟩ := Rs.readsS hS I t _ ys r2 h2
        exact ⟨_, .cons q1 q2, by simp [n1, n2]⟩
    · cases e
theorem Re.readsS (hS : SysD s.heap) (I : Inv X pins σ H s) : ∀ {v : List (DKey × V)} {d : List (DKey × D)} {fp : List Addr}, Re (gam X) F H v d fp → ∀ (u : List Value) (p : List PyData), Vals (v.map (·.2)) u → toPyE d = some p → ∃ as, ReadsAll s.heap u p as ∧ sysModules ∉ as
  | _, _, _, .nil, u, p, r, e => by cases e; cases r; exact ⟨_, .nil, by simp⟩
  | _, _, _, .cons a t, u, p, r, e => by
    simp only [toPyE] at e
    split at e
    · rename_i y ys h1 h2
      cases e
      cases r with
      | cons r1 r2 =>
        obtain ⟨as, q1, n1⟩ := R.readsS hS I a _ y r1 h1
        obtain ⟨bs, q2, n2⟩ := Re.readsS hS I t _ ys r2 h2
        exact ⟨_, .cons q1 q2, by simp [n1, n2]⟩
    · cases e
end
end
end DL

set_option Elab.async false
set_option linter.all false
set_option maxRecDepth 100000
set_option maxHeartbeats 4000000
/-! DL33: repr of lists, tuples, dicts. -/
namespace DL
open PySem PySem.Spec PyProof.Rows L2

/-- a list, tuple or dict -/
def isBox : D → Bool
  | .tup _ => true
  | .lst _ _ => true
  | .dic _ _ => true
  | _ => false
def reprK (d : D) : Option D := if isBox d = true then match toPy d with
  | some p => if p.showable = true ∧ p.shown.length ≤ sizeLine ∧ p.depth ≤ 150 then some (.str p.shown) else none
  | none => none
  else none
theorem reprK_inv {d d' : D} (h : reprK d = some d') : isBox d = true ∧ ∃ p, toPy d = some p ∧ p.showable = true ∧ p.shown.length ≤ sizeLine ∧ p.depth ≤ 150 ∧ d' = .str p.shown := by
  unfold reprK at h
  split at h
  · rename_i hb
    split at h
    · rename_i p hp
      split at h
      · rename_i hc
        cases h
        exact ⟨hb, p, hp, hc.1, hc.2.1, hc.2.2, rfl⟩
      · cases h
    · cases h
  · cases h
theorem R.box {G : Gam} {F : Addr → Prop} {H : Hp} {v : V} {d : D} {fp : List Addr} (r : R G F H v d fp) (h : isBox d = true) : ∃ a, v = .ref a := by
  cases r <;> first
    | exact ⟨_, rfl⟩
    | cases h
def rRepr (X : Cx) : List V → Hp → VK → Prop := fun xs H Q => ∃ F x d fp d' z, xs = [x] ∧ R (gam X) F H x d fp ∧ reprK d = some d' ∧ d' = .str z ∧ Q (.str z) H
section
variable {X : Cx}
theorem call_repr (hg : X.A.guards = some []) (hu : X.A.units + 160 < cLine) (hS : ∀ h, X.K.In h → SysD h) : CallR X (.builtin "repr") (rRepr X) := by
  intro pins s σ H xs us Q I r h
  obtain ⟨F, x, d, fp, d', z, rfl, rd, e, rfl, q⟩ := h
  obtain ⟨hb, p, hp, h1, h2, h3, h4⟩ := reprK_inv e
  cases h4
  obtain ⟨a, rfl⟩ := rd.box hb
  cases r with
  | cons ra rr =>
  cases rr
  cases (show _ = Value.ref a from ra)
  obtain ⟨as, rs, hn⟩ := rd.readsS (hS _ I.kIn) I _ p rfl hp
  exact repr_of_reads' rs h1 (fun _ => hn) hg (by omega) (fun _ _ z => z) (fun h' u tk k => ⟨.str p.shown, H, I.kept (t' := tk) k, ⟨_, rfl⟩, q⟩) h2
theorem cd_repr (hg : X.A.guards = some []) (hu : X.A.units + 160 < cLine) (hS : ∀ h, X.K.In h → SysD h) : CallD X (.builtin "repr") (lift1 reprK) := ⟨_, call_repr hg hu hS, callS1 fun F H fp x a d f1 Q w ra m1 e q => by
  obtain ⟨_, p, _, _, _, _, rfl⟩ := reprK_inv e
  exact ⟨F, x, a, f1, _, _, rfl, ra, e, rfl, gives w q (.str _)⟩⟩
end
end DL

set_option Elab.async false
set_option linter.all false
set_option maxRecDepth 100000
set_option maxHeartbeats 4000000
/-! DL34: isinstance(e, C), C by its name. -/
namespace DL
open PySem PySem.Spec PyProof.Rows L2
/-- x is an own class, with these answers -/
structure IsOwn (K : PySem.W.Frag) (mg : Str → Option Value) (x : Str) (bt : List (String × Bool)) (ct it : List (Str × Bool)) : Prop where
  ex : ∃ C, mg x = some (.ref C) ∧ IsTab K mg (.ref C) bt ct it
section
variable {X : Cx} {e : Expr} {p p2 pos : Pos} {q : Env → Option D} {bt : List (String × Bool)} {ct it : List (Str × Bool)} {x : Str}
theorem qf_isiO (O : IsOwn X.K X.mg x bt ct it) (hg : Gl X "isinstance") (hm : X.mg "isinstance" = none) (h : QR X e q) (hgx : Gl X x) (hdb : (x == ("__debug__" : Str)) = false := by decide)
    (hst : starEach (e :: [.Name x p2]) X.env = (false, eval e X.env) :: starEach [.Name x p2] X.env := by rfl) :
    QF X (.Call (.Name "isinstance" p) [e, .Name x p2] [] pos) (qOp (lift1 (isiD bt ct it)) (q1 q)) := by
  obtain ⟨C, gC, tb⟩ := O.ex
  exact qf_isi hg hm h (pe_glob (v := .ref C) hgx gC rfl hdb) (.own C) tb hst (by rfl) (by rfl)
theorem qf_isiT {n : String} (tb : IsTab X.K X.mg (.type n) bt ct it) (hg : Gl X "isinstance") (hm : X.mg "isinstance" = none) (h : QR X e q) (hgx : Gl X x) (hmx : X.mg x = none) (hv : bootBuiltins x = some (.type n)) (hn : x ≠ "__name__" := by decide) (hdb : (x == ("__debug__" : Str)) = false := by decide)
    (hst : starEach (e :: [.Name x p2]) X.env = (false, eval e X.env) :: starEach [.Name x p2] X.env := by rfl) :
    QF X (.Call (.Name "isinstance" p) [e, .Name x p2] [] pos) (qOp (lift1 (isiD bt ct it)) (q1 q)) :=
  qf_isi hg hm h (pe_bltn (v := .ty n) hgx hmx hv rfl hn hdb) (.ty n) tb hst (by rfl) (by rfl)
end
end DL

set_option Elab.async false
set_option linter.all false
set_option maxRecDepth 100000
set_option maxHeartbeats 4000000
/-! DL35: a held error's field, any expression; errors without __init__ by name. -/
namespace DL
open PySem PySem.Spec PyProof.Rows L2
def fldX (T : List Str) (n : Str) (f : Env → Res D) : Env → Res D := fun ρ => (f ρ).bind fun d ρ' => match fldE T n d with
  | some x => .ok x ρ'
  | none => .stuck
theorem fldE_inv {T : List Str} {n : Str} {d x : D} (h : fldE T n d = some x) : ∃ C fs, d = .exc C fs ∧ C ∈ T ∧ fs.lookup n = some x := by
  cases d <;> try (cases h; done)
  rename_i C fs
  simp only [fldE] at h
  split at h
  · rename_i ht
    exact ⟨C, fs, rfl, ht, h⟩
  · cases h
section
variable {X : Cx} {W : WX} {e : Expr} {pos p : Pos} {n x : Str} {T ns : List Str} {f : Env → Res D}
theorem de_fld (tb : ErrTab X.K X.mg T ns) (hn : n ∈ ns) (h : DE X W e f) (hb : attributeBase e n X.env (eval e X.env) = eval e X.env := by rfl) : DE X W (.Attribute e n pos) (fldX T n f) := ⟨(pe_ef h.pe hb).weak fun σ H Q z => by
  obtain ⟨F, ρ, fp, w, e, p⟩ := z
  refine ⟨F, ρ, fp, w, e, ?_⟩
  unfold fldX at p
  cases h1 : f ρ with
  | ok d ρ1 =>
    simp only [h1, Res.bind_ok] at p ⊢
    intro y F1 H1 fv fp1 E1 W1 e1 r
    cases h2 : fldE T n d with
    | none => simp only [h2] at p; exact False.elim p
    | some x =>
      simp only [h2] at p
      obtain ⟨C, fs, rfl, ht, hl⟩ := fldE_inv h2
      cases r with
      | excF f f2 hm ha hd rf =>
        obtain ⟨v, hl, rv⟩ := rf.look hl
        obtain ⟨o1, o2⟩ := tb.ok _ ht _ hm
        exact ⟨_, _, _, _, _, rfl, o1, o2 n hn, ha, hd, hl, p _ F1 H1 [] fp1 E1 W1 e1 rv⟩
      | excN f hm ha => cases hl
  | err e ρ1 => simp only [h1, Res.bind_err] at p ⊢; exact p
  | stuck => simp only [h1, Res.bind_stuck] at p; exact False.elim p⟩
structure Err0 (K : PySem.W.Frag) (mg : Str → Option Value) (x : Str) : Prop where
  ex : ∃ C, mg x = some (.ref C) ∧ PySem.W.excIn K C veB "ValueError.__new__" = true ∧ PySem.W.keepIn K (.ref C) = true
theorem de_err0 (O : Err0 X.K X.mg x) (hg : Gl X x) (he : DE X W e f) (hs : starEach [e] X.env = (false, eval e X.env) :: starEach [] X.env := by rfl) (hdb : (x == ("__debug__" : Str)) = false := by decide) : DE X W (.Call (.Name x p) [e] [] pos) (mkErr0D x f) := by
  obtain ⟨C, gC, hin, kC⟩ := O.ex
  exact de_mkErr0 hin gC kC hg he hs hdb
end
end DL

set_option Elab.async false
set_option linter.all false
set_option maxRecDepth 100000
set_option maxHeartbeats 4000000
/-! DL36: the law's end for a def that wants no guards. -/
namespace DL
open PySem PySem.Spec PyProof.Rows L2

/-- what is wanted of the run -/
abbrev EndR (s1 : Shared) (r : Result) (s' : Shared) : Prop := r = .ok (.ret (.bool true)) ∧ OldK s1.heap s'.heap ∧ s'.os = s1.os ∧ AllBare s'.gens
section
variable {P : Program} {w : World} {K : PySem.W.Frag} {mg mb : Str → Option Value} {k : Nat} {fa a : Addr} {fd : FuncData} {x : Str} {sp : Sp} {s1 : Shared} {vs : List Value} {ns : List Int}
theorem end_core (KX : K.In s1.heap) (hns : s1.heap.Ns mainGlobals mg) (hb : s1.heap.Ns builtinsNs mb) (hbb : ∀ x : Str, x ≠ "__name__" → mb x = bootBuiltins x) (hlim : s1.heap.NoLimit) (hg : s1.gens = #[])
    (ha : s1.heap.get? a = some { cls := .type "list", data := .seq vs.toArray }) (hr : Room k callerA)
    (F : ∀ base : Heap, K.In base → base.Ns mainGlobals mg → FnG P w K mg base k fa fd 1 [x] sp) (hbind : ∀ (s : Shared) (u : Value), BindsTo s fd ⟨[u], []⟩ [(x, u)])
    (H : Hp) (only : Only H) (good : HOk P w H s1.heap) (at_a : ∀ b, H b ≠ none → b = a) (nk : H a ≠ none → K.lookup a = none) (hsp : sp [.ref a] H (fun v _ => v = .bl true) fun _ _ _ => False) :
    codeAny (model P w) callerA (.call (.ref fa) ⟨[.ref a], []⟩) (EndR s1) s1 := by
  have dictFree : ∀ {b : Addr} {o : Obj} {es : Array DictEntry} {ep : Nat}, s1.heap.get? b = some o → o.data = .dict es ep → H b = none := by
    intro b o es ep e d
    by_cases q : H b = none
    · exact q
    · have e' := at_a b q
      rw [e', ha] at e
      cases e
      cases d
  have names : ∀ {b : Addr} {m : Str → Option Value}, s1.heap.Ns b m → (hidT s1.heap H).Ns b m := by
    intro b m ⟨o, es, ep, e, d, r⟩
    exact ⟨o, es, ep, hidT_get e (dictFree e d), d, r⟩
  have part : K.In (hidT s1.heap H) := by
    intro b o e
    refine hidT_get (KX b o e) ?_
    by_cases q : H b = none
    · exact q
    · have e' := at_a b q
      rw [e'] at e q
      rw [nk q] at e
      cases e
  have unlimited : (hidT s1.heap H).NoLimit := by
    obtain ⟨mc, h1, h2⟩ := hlim
    exact ⟨mc, names h1, h2⟩
  have en : Env0 P w K mg (hidT s1.heap H) callerA [] s1 H :=
    { frames := rfl, mod := ⟨part, names hns, ⟨mb, names hb, hbb⟩, unlimited⟩, bs := fun b o e => of_hidT e, bsz := Nat.le_of_eq (hidT_size _ _), funs := trivial, frf := (fun b z => nomatch z), hok := good, bare := .of_eq hg }
  refine codeAny_mono ((F _ part (names hns)).go callerA [] s1 H ⟨[.ref a], []⟩ [.ref a] [.ref a] _ _ hr rfl en (hbind s1 (.ref a)) (.cons rfl .nil) hsp) ?_
  intro r s' out
  match r, out with
  | .error e, out =>
    obtain ⟨_, _, _, _, _, _, _, _, _, _, _, _, z⟩ := out
    exact z.elim
  | .ok .next, out => exact out.elim
  | .ok .brk, out => exact out.elim
  | .ok .cont, out => exact out.elim
  | .ok (.ret u), out =>
    obtain ⟨v, H', os, bare, un, good', rv, qv⟩ := out
    cases (show v = V.bl true from qv)
    cases (show u = Value.bool true from rv)
    refine ⟨rfl, OldK.of_keep ?_, os, bare⟩
    intro b o e
    rcases only b with z | ⟨ob, xs, z⟩
    · exact un.keep b o e z (fun m => nomatch m) (fun m => nomatch m)
    · have before := (good b _ z).1
      have after := (good' b _ (un.frzs b ob _ z)).1
      rw [e] at before
      cases before
      exact after
/-- THE END: F may use that base is a part of the heap -/
theorem end_call (KX : K.In s1.heap) (hns : s1.heap.Ns mainGlobals mg) (hb : s1.heap.Ns builtinsNs mb) (hbb : ∀ x : Str, x ≠ "__name__" → mb x = bootBuiltins x) (hlim : s1.heap.NoLimit) (hg : s1.gens = #[])
    (ha : s1.heap.get? a = some { cls := .type "list", data := .seq vs.toArray }) (hi : IntsAre vs ns) (hl : ns.length ≤ sizeLine) (hr : Room k callerA)
    (F : ∀ base : Heap, K.In base → base.Ns mainGlobals mg → FnG P w K mg base k fa fd 1 [x] sp) (hbind : ∀ (s : Shared) (u : Value), BindsTo s fd ⟨[u], []⟩ [(x, u)])
    (hsp : ∀ H : Hp, Only H → SqL K H a (ns.map V.int) → sp [.ref a] H (fun v _ => v = .bl true) fun _ _ _ => False) :
    codeAny (model P w) callerA (.call (.ref fa) ⟨[.ref a], []⟩) (EndR s1) s1 := by
  have rv := vals_ints hi
  by_cases hk : K.lookup a = none
  · let H : Hp := fun b => if b = a then some (.frz { cls := .type "list", data := .seq vs.toArray } (.lst (ns.map V.int))) else none
    have Ha : H a = some (.frz { cls := .type "list", data := .seq vs.toArray } (.lst (ns.map V.int))) := if_pos rfl
    have Hn : ∀ b, b ≠ a → H b = none := fun b n => if_neg n
    have only : Only H := fun b => by
      by_cases e : b = a
      · exact .inr ⟨_, _, by rw [e]; exact Ha⟩
      · exact .inl (Hn b e)
    refine end_core KX hns hb hbb hlim hg ha hr F hbind H only (fun b u z => ?_) (fun b z => Classical.byContradiction fun n => z (Hn b n)) (fun _ => hk) (hsp H only (.inl (.inr ⟨_, Ha⟩)))
    by_cases e : b = a
    · subst e
      rw [Ha] at z
      cases z
      exact ⟨ha, by rw [List.length_map]; exact hl, vs, _, rv, ha⟩
    · rw [Hn b e] at z
      cases z
  · obtain ⟨o, hk⟩ := Option.ne_none_iff_exists'.mp hk
    have e := KX a o hk
    rw [ha] at e
    cases e
    exact end_core KX hns hb hbb hlim hg ha hr F hbind (fun _ => none) (fun _ => .inl rfl) (fun b u z => nomatch z) (fun b z => absurd rfl z) (fun z => absurd rfl z)
      (hsp _ (fun _ => .inl rfl) (.inr ⟨_, vs.toArray, _, hk, rfl, rfl, rfl, by rw [List.size_toArray, hi.length]; exact hl, by simpa using rv⟩))
end
/-- the walk that the head wants -/
theorem walk_ofG {l : PySem.W.OpenLaw} {n k : Nat} {q : Program} {loose : List Str} {XP : (Str → Option Value) → Heap → Prop} {YP : World → Heap → Prop} {d : DefRec} {x : Str}
    (hn : l.most = some n) (hn2 : n ≤ sizeLine) (hdf : d.params.defaults = []) (hr : Room k callerA)
    (F : ∀ (w : World) (mg : Str → Option Value) (fa : Addr) (h : Heap), YP w h → h.Ns mainGlobals mg → mg d.name = some (.ref fa) →
      ∃ (K : PySem.W.Frag) (fd : FuncData) (sp : Sp), K.In h ∧ (∀ (s : Shared) (u : Value), BindsTo s fd ⟨[u], []⟩ [(x, u)]) ∧
        (∀ (H : Hp) (a : Addr) (ns : List Int), ns.length ≤ n → Only H → SqL K H a (ns.map V.int) → sp [.ref a] H (fun v _ => v = .bl true) fun _ _ _ => False) ∧
        ∀ base : Heap, K.In base → base.Ns mainGlobals mg → FnG l.prog w K mg base k fa fd 1 [x] sp) :
    PySem.W.WalkO q loose XP YP l.row.toRowW d [] (fun f vs => PySem.call f vs) := by
  refine Att.attach_call hn hdf ?_
  intro w s0 s1 mg mb fa o pm cd doc a vs ns G Y ho hd hcd hmg hobj hints hlen hg
  obtain ⟨K, fd, sp, KX, bd, meets, promise⟩ := F w mg fa _ Y G.T.g hmg
  exact end_call KX G.T.g G.T.b G.T.builtins G.T.nolimit hg hobj hints (Nat.le_trans hlen hn2) hr promise bd fun H hO hS => meets H a ns hlen hO hS
end DL

set_option Elab.async false
set_option linter.all false
set_option maxRecDepth 100000
set_option maxHeartbeats 4000000
/-! DL37: the head's facts: classes of errors, their __init__s. -/
namespace DL
open PySem PySem.Spec PyProof.Rows L2 He

/-! ### Bools of K -/
def excCB (K : PySem.W.Frag) (D : Addr) : Bool :=
  eqO (PySem.W.findIn K (.ref D) "__getattribute__") (some (some (.builtin "BaseException.__getattribute__"))) && (eqO (PySem.W.findIn K (.ref D) "__getattr__") (some none) && (decide (PySem.W.subIn K (.ref D) (.type "BaseException") = some true) && (PySem.W.hasDictIn K D &&
  (eqO (PySem.W.findIn K (.ref D) "__class__") (some (some (.builtin "object.__class__"))) && (eqO (PySem.W.specialIn K (.builtin "object.__class__") "__get__") (some (some (.builtin "getset_descriptor.__get__"))) && (decide (PySem.W.takesIn K (.builtin "object.__class__") = some true) && decide (PySem.W.mroIn K D (.type "object") = some true)))))))
theorem excCB_ok {K : PySem.W.Frag} {D : Addr} (h : excCB K D = true) : ExcC K D := by
  obtain ⟨h1, h⟩ := ba h
  obtain ⟨h2, h⟩ := ba h
  obtain ⟨h3, h⟩ := ba h
  obtain ⟨h4, h⟩ := ba h
  obtain ⟨h5, h⟩ := ba h
  obtain ⟨h6, h⟩ := ba h
  obtain ⟨h7, h8⟩ := ba h
  exact ⟨eqO_ok h1, eqO_ok h2, of_decide_eq_true h3, h4, eqO_ok h5, eqO_ok h6, of_decide_eq_true h7, of_decide_eq_true h8⟩
theorem mem_of_look {α β : Type} [BEq α] [LawfulBEq α] : ∀ {l : List (α × β)} {a : α} {b : β}, l.lookup a = some b → (a, b) ∈ l
  | [], _, _, h => by cases h
  | (c, d) :: l, a, b, h => by
    rw [List.lookup_cons] at h
    split at h
    · rename_i e
      cases h
      rw [eq_of_beq e]
      exact List.mem_cons_self ..
    · exact List.mem_cons_of_mem _ (mem_of_look h)
/-- the answers for a class without instances of own classes -/
def isTabB (K : PySem.W.Frag) (u : Value) (bt : List (String × Bool)) (ct : List (Str × Bool)) : Bool :=
  (bt.all fun p => decide (PySem.W.kitOne K (.type p.1) u = some p.2)) && ct.all fun p => (Fa.glo p.1).ok K && (excCB K (ga K p.1) && decide (PySem.W.kitOne K (.ref (ga K p.1)) u = some p.2))
section
variable {K : PySem.W.Frag} {h : Heap} {mg : Str → Option Value}
theorem isTabB_ok (X : K.In h) (G : h.Ns mainGlobals mg) {u : Value} {bt : List (String × Bool)} {ct : List (Str × Bool)} (c : isTabB K u bt ct = true) : IsTab K mg u bt ct [] := by
  obtain ⟨h1, h2⟩ := ba c
  refine ⟨fun n b e => of_decide_eq_true (List.all_eq_true.mp h1 _ (mem_of_look e)), fun n b e C g => ?_, fun n b e => nomatch e⟩
  obtain ⟨h3, h4⟩ := ba (List.all_eq_true.mp h2 _ (mem_of_look e))
  obtain ⟨h5, h6⟩ := ba h4
  have g2 := g.symm.trans (glo_ok X G h3)
  cases g2
  exact ⟨excCB_ok h5, of_decide_eq_true h6⟩
theorem isOwn_of (X : K.In h) (G : h.Ns mainGlobals mg) {x : Str} {bt : List (String × Bool)} {ct : List (Str × Bool)} (c : ((Fa.glo x).ok K && isTabB K (.ref (ga K x)) bt ct) = true) : IsOwn K mg x bt ct [] := by
  obtain ⟨h1, h2⟩ := ba c
  exact ⟨⟨_, glo_ok X G h1, isTabB_ok X G h2⟩⟩
def errTabB (K : PySem.W.Frag) (T ns : List Str) : Bool := T.all fun x => (Fa.glo x).ok K && (xfB K (ga K x) && ns.all fun n => eqO (PySem.W.findIn K (.ref (ga K x)) n) (some none))
theorem errTab_of (X : K.In h) (G : h.Ns mainGlobals mg) {T ns : List Str} (c : errTabB K T ns = true) : ErrTab K mg T ns := ⟨fun Cn m C g => by
  obtain ⟨h1, h2⟩ := ba (List.all_eq_true.mp c _ m)
  obtain ⟨h3, h4⟩ := ba h2
  have g2 := g.symm.trans (glo_ok X G h1)
  cases g2
  exact ⟨xfB_ok h3, fun n hn => eqO_ok (List.all_eq_true.mp h4 n hn)⟩⟩
theorem err0_of (X : K.In h) (G : h.Ns mainGlobals mg) {x : Str} (c : ((Fa.glo x).ok K && (Fa.exc x).ok K) = true) : Err0 K mg x := by
  obtain ⟨h1, h2⟩ := ba c
  obtain ⟨h3, h4, _, _⟩ := exc_ok h2
  exact ⟨⟨_, glo_ok X G h1, h3, h4⟩⟩
def sysB (K : PySem.W.Frag) : Bool := match K.lookup sysModules with
  | some ⟨.type c, _, _, _⟩ => decide (c = "dict")
  | _ => false
theorem sysB_ok (c : sysB K = true) : ∀ h, K.In h → SysD h := fun h X => by
  unfold sysB at c
  split at c
  · rename_i cn d dt sl e
    exact ⟨_, X _ _ e, congrArg Value.type (of_decide_eq_true c)⟩
  · cases c
end
end DL

set_option Elab.async false
set_option linter.all false
set_option maxRecDepth 100000
set_option maxHeartbeats 4000000
/-! DL38: own errors with an __init__: MkErr, MkErrK from Bools of K and from the def's own text. -/
namespace DL
open PySem PySem.Spec PyProof.Rows L2 He

/-! ### Bools of K -/
def oexB (K : PySem.W.Frag) (C : Addr) : Bool := (match K.lookup C with
  | some ⟨.type ty, _, .cls cd, sl⟩ => decide (ty = "type") && (cd.hasDict && (!cd.hasDel && ((match cd.mro with
    | .ref c :: bm => decide (c = C) && PySem.HandSPX.refsVE bm
    | _ => false) && (match sl with
    | ⟨[_, _, _, _, some (.builtin n), _]⟩ => decide (n = "ValueError.__new__")
    | _ => false))))
  | _ => false) && (eqO (PySem.W.findIn K (.ref C) "__setattr__") (some (some (.builtin "object.__setattr__"))) && (decide (PySem.W.subIn K (.ref C) (.type "BaseException") = some true) && (decide (PySem.W.typeIn K (.ref C) = some (.type "type")) && PySem.W.keepIn K (.ref C))))
theorem oexB_ok {K : PySem.W.Frag} {C : Addr} (h : oexB K C = true) : OexC K C := by
  obtain ⟨h1, h⟩ := ba h
  obtain ⟨h2, h⟩ := ba h
  obtain ⟨h3, h⟩ := ba h
  obtain ⟨h4, h5⟩ := ba h
  refine ⟨?_, eqO_ok h2, of_decide_eq_true h3, of_decide_eq_true h4, h5⟩
  split at h1
  · rename_i ty dd cd sl q
    obtain ⟨g1, g⟩ := ba h1
    obtain ⟨g2, g⟩ := ba g
    obtain ⟨g3, g⟩ := ba g
    obtain ⟨g4, g5⟩ := ba g
    split at g4
    · rename_i c bm qm
      obtain ⟨g6, g7⟩ := ba g4
      split at g5
      · rename_i k0 k1 k2 k3 n k5
        obtain ⟨n1, n2, n3, n4, n5, n6, n7, n8, n9, n10, n11⟩ := cd
        have e1 := of_decide_eq_true g1
        have e2 := of_decide_eq_true g6
        have e3 := of_decide_eq_true g5
        have e4 : n6 = true := g2
        have e5 : n11 = false := by simpa using g3
        have e6 : n3 = Value.ref c :: bm := qm
        subst e1 e2 e3 e4 e5 e6
        exact ⟨_, _, _, _, bm, _, _, _, _, _, _, _, _, _, _, q, g7⟩
      · cases g5
    · cases g4
  · cases h1
/-- the code record at v has this file's name at 2 -/
def codB (K : PySem.W.Frag) (pf : Str) (v : Value) : Bool := match v with
  | .ref c => (match K.lookup c with
    | some ⟨_, _, .fields vs, _⟩ => (match (vs[2]? : Option Value) with
      | some (Value.str f _) => pf == f
      | _ => false)
    | _ => false)
  | _ => false
theorem codB_ok {K : PySem.W.Frag} {pf : Str} {v : Value} (h : codB K pf v = true) : ∃ c ccl cdd vs ccs file tf, v = .ref c ∧ K.lookup c = some ⟨ccl, cdd, .fields vs, ccs⟩ ∧ vs[2]? = some (.str file tf) ∧ (pf == file) = true := by
  unfold codB at h
  split at h
  · split at h
    · split at h
      · rename_i q _ _ _ q2
        exact ⟨_, _, _, _, _, _, _, rfl, q, q2, h⟩
      · cases h
    · cases h
  · cases h
/-- the closure is one cell, of the class itself -/
def cellB (K : PySem.W.Frag) (C : Addr) (cl : List (Str × Addr)) : Bool := match cl with
  | [p] => (match K.lookup p.2 with
    | some ⟨_, _, .cell (some (.ref c)), _⟩ => decide (c = C)
    | _ => false)
  | _ => false
theorem cellB_ok {K : PySem.W.Frag} {C : Addr} {cl : List (Str × Addr)} (h : cellB K C cl = true) : ∃ p c d s, cl = [p] ∧ K.lookup p.2 = some ⟨c, d, .cell (some (.ref C)), s⟩ := by
  unfold cellB at h
  split at h
  · split at h
    · rename_i q
      have e := of_decide_eq_true h
      subst e
      exact ⟨_, _, _, _, rfl, q⟩
    · cases h
  · cases h
/-- what is compared by the run: the __init__ of the class x -/
abbrev ErV : Type := Option (Str × Str × Arguments × FuncBody × Scope × Addr × List Str × Value × Addr)
def erW (K : PySem.W.Frag) (x : Str) : ErV := match K.lookup (ma K (ga K x) "__init__") with
  | some ⟨_, _, .func fd, _⟩ => some (fd.name, fd.qualname, fd.params, fd.body, fd.scope, fd.globals, fd.closure.map (·.1), fd.defaults, fd.builtins)
  | _ => none
/-- one such class: its name, its field (and parameter), its __init__'s qualified name and def -/
structure ErD where
  x : Str
  fl : Str
  qual : Str
  st : Stmt
def ErD.val (d : ErD) : ErV := some ("__init__", d.qual, defArgs d.st, .stmts (defBody d.st), defScope d.st, mainGlobals, ["__class__"], .none, builtinsNs)
def ErD.ok (pf : Str) (K : PySem.W.Frag) (d : ErD) : Bool :=
  (Fa.glo d.x).ok K && (oexB K (ga K d.x) && (eqO (PySem.W.findIn K (.ref (ga K d.x)) d.fl) (some none) && (eqO (PySem.W.ks_superIn K (ga K d.x) (ga K d.x) "__init__") (some (some (.builtin "ValueError.__init__"))) &&
  (decide (PySem.W.subIn K (.ref (ga K d.x)) (.type "ValueError") = some true) && (decide (PySem.W.mroIn K (ga K d.x) (.ref (ga K d.x)) = some true) && (PySem.W.excInitIn K (ga K d.x) veB "ValueError.__new__" && (PySem.W.excOver K (ga K d.x) veB &&
  (PySem.W.hasDictIn K (ga K d.x) && (eqO (PySem.W.takerIn K (ga K d.x) d.fl) (some none) && (eqO (PySem.W.nsIn K cStatics "thirdparty.any") (some none) && ((PySem.W.clsIn K (ga K d.x)).isSome &&
  (eqO (PySem.W.findIn K (.ref (ga K d.x)) "__init__") (some (some (.ref (ma K (ga K d.x) "__init__")))) && (decide (PySem.W.typeIn K (.ref (ma K (ga K d.x) "__init__")) = some (.type "function")) &&
  (match K.lookup (ma K (ga K d.x) "__init__") with
    | some ⟨_, _, .func fd, _⟩ => PySem.W.codeIn K fd.code d.qual && (codB K pf fd.code && cellB K (ga K d.x) fd.closure)
    | _ => false))))))))))))))
/-- what the def's text says -/
structure ErT (P : Program) (d : ErD) : Prop where
  body : ∃ (tx : Str) (p0 p1 p2 p3 p4 p5 p6 p7 p8 p9 : Pos) (n : Nat), defBody d.st = errBody d.fl d.fl tx p0 p1 p2 p3 p4 p5 p6 p7 p8 p9 n ∧
    ∀ env : PySem.Env, ∃ pl : Sem Bool, eval (.Call (.Attribute (.Call (.Name "super" p0) [] [] p1) "__init__" p2) [.Constant (.str tx) n p3] [] p4) env = (do
      let ov ← attributeBase (.Call (.Name "super" p0) [] [] p1) "__init__" env (eval (.Call (.Name "super" p0) [] [] p1) env)
      standAt p2.atName
      let (f, first) ← holding [ov] (getMethod ov "__init__" pl)
      callWith p4 f first (backTo p4 (starEach [.Constant (.str tx) n p3] env)) [])
  top : (P.main.scope.names.lookup ("super" : Str)).isSome = false
  hks : (defScope d.st).names.lookup ("super" : Str) = some .globalImplicit
  hkc : (defScope d.st).names.lookup ("__class__" : Str) = some .free
  hself : (defScope d.st).names.lookup ("self" : Str) = some .local
  hx : (defScope d.st).names.lookup d.fl = some .local
  ne : d.fl ≠ "self"
  ndb : (d.fl == ("__debug__" : Str)) = false
  hk : (defScope d.st).kind = .function
  par : ∃ ar, ((defArgs d.st).posonlyargs ++ (defArgs d.st).args).head? = some ar ∧ ar.arg = "self"
  hcell : ∀ x ∈ (defScope d.st).names, x.2 ≠ .cell
  hco : (defScope d.st).isCoroutine = false
  hgen : (defScope d.st).isGenerator = false
  bind : ∀ (nm qual : Str) (body : List Stmt) (sc : Scope) (kV doc pm : Value) (an : Option Addr) (cdv ct : Value) (cc : Addr) (u0 u : Value), bindArgs (PySem.W.ksFn nm qual (defArgs d.st) body sc .none kV doc pm an cdv ct cc) ⟨[u0, u], []⟩ = pure [(("self" : Str), u0), (d.fl, u)]
  bindK : ∀ (nm qual : Str) (body : List Stmt) (sc : Scope) (kV doc pm : Value) (an : Option Addr) (cdv ct : Value) (cc : Addr) (u0 u : Value), bindArgs (PySem.W.ksFn nm qual (defArgs d.st) body sc .none kV doc pm an cdv ct cc) ⟨[u0], [(d.fl, u)]⟩ = pure [(("self" : Str), u0), (d.fl, u)]
section
variable {P : Program} {w : World} {K : PySem.W.Frag} {mg : Str → Option Value} {base h : Heap} {d : ErD}
theorem err_facts (X : K.In h) (G : h.Ns mainGlobals mg) (hm : mg "super" = none) (T : ErT P d) (c : d.ok P.main.file K = true) (e : erW K d.x = d.val) :
    ∃ (C fI : Addr) (fd : FuncData), mg d.x = some (.ref C) ∧ OexC K C ∧ PySem.W.findIn K (.ref C) "__init__" = some (some (.ref fI)) ∧ PySem.W.typeIn K (.ref fI) = some (.type "function") ∧
      (∀ CX k, FnOk P w K mg base CX (k + 1) fI fd [("self" : Str), d.fl] (spErr C d.fl)) ∧ Binds K fd [("self" : Str), d.fl] [] ∧ ∀ (s : Shared) (u0 u : Value), K.In s.heap → BindsTo s fd ⟨[u0], [(d.fl, u)]⟩ ([("self" : Str), d.fl].zip [u0, u]) := by
  obtain ⟨c1, c⟩ := ba c
  obtain ⟨c2, c⟩ := ba c
  obtain ⟨c3, c⟩ := ba c
  obtain ⟨c4, c⟩ := ba c
  obtain ⟨c5, c⟩ := ba c
  obtain ⟨c6, c⟩ := ba c
  obtain ⟨c7, c⟩ := ba c
  obtain ⟨c8, c⟩ := ba c
  obtain ⟨c9, c⟩ := ba c
  obtain ⟨c10, c⟩ := ba c
  obtain ⟨c11, c⟩ := ba c
  obtain ⟨c12, c⟩ := ba c
  obtain ⟨c13, c⟩ := ba c
  obtain ⟨c14, c⟩ := ba c
  unfold erW at e
  split at c
  · rename_i oc od fd osl lk
    rw [lk] at e
    obtain ⟨c15, c⟩ := ba c
    obtain ⟨c16, c17⟩ := ba c
    obtain ⟨n1, n2, n3, n4, n5, n6, n7, n8, n9, n10, n11, n12, n13, n14, n15⟩ := fd
    obtain ⟨cda, ccl, cdd, vs, ccs, file, tf, e1, k1, k2, k3⟩ := codB_ok c16
    obtain ⟨p, cl1, cl2, cl3, e2, k4⟩ := cellB_ok c17
    have e1 : n13 = .ref cda := e1
    have e2 : n7 = [p] := e2
    have e3 : (some (n1, n2, n3, n4, n5, n6, n7.map (·.1), n8, n15) : ErV) = ErD.val d := e
    unfold ErD.val at e3
    simp only [Option.some.injEq, Prod.mk.injEq] at e3
    obtain ⟨h1, h2, h3, h4, h5, h6, h7, h9, h8⟩ := e3
    obtain ⟨p1, cc⟩ := p
    subst e1 e2
    have h7 : [p1] = [("__class__" : Str)] := h7
    cases h7
    subst h1 h2 h3 h4 h5 h6 h8 h9
    obtain ⟨tx, q0, q1, q2, q3, q4, q5, q6, q7, q8, q9, n, hb, hev⟩ := T.body
    rw [hb] at lk
    have EC : ErrC P w K (ga K d.x) (ma K (ga K d.x) "__init__") cc cda d.fl d.fl (defArgs d.st) (defScope d.st) :=
      ⟨oexB_ok c2, eqO_ok c3, eqO_ok c4, of_decide_eq_true c5, of_decide_eq_true c6, c7, c8, c9, eqO_ok c10, eqO_ok c11, ⟨_, _, _, k4⟩, ⟨_, _, _, _, _, _, k1, k2, k3⟩, Option.isSome_iff_exists.mp c12, T.top, T.hks, T.hkc, T.hself, T.hx, T.ne, T.hk, T.par⟩
    refine ⟨_, _, _, glo_ok X G c1, oexB_ok c2, eqO_ok c13, of_decide_eq_true c14, fun CX k => fn_err EC hm T.ndb lk c15 hev T.hcell T.hco T.hgen, ?_, fun s u0 u _ => .of_eq (T.bindK _ _ _ _ _ _ _ _ _ _ _ _ _)⟩
    refine .all fun us hl => ?_
    match us, hl with
    | [u0, u], _ => exact T.bind _ _ _ _ _ _ _ _ _ _ _ _ _
  · cases c
theorem mkErr_of (X : K.In h) (G : h.Ns mainGlobals mg) (hm : mg "super" = none) (T : ErT P d) (c : d.ok P.main.file K = true) (e : erW K d.x = d.val) : MkErr P w K mg base d.x d.fl := by
  obtain ⟨C, fI, fd, h1, h2, h3, h4, h5, h6, _⟩ := err_facts X G hm T c e
  exact ⟨⟨C, fI, fd, _, h1, h2, h3, h4, h5, h6⟩⟩
theorem mkErrK_of (X : K.In h) (G : h.Ns mainGlobals mg) (hm : mg "super" = none) (T : ErT P d) (c : d.ok P.main.file K = true) (e : erW K d.x = d.val) : MkErrK P w K mg base d.x d.fl d.fl := by
  obtain ⟨C, fI, fd, h1, h2, h3, h4, h5, _, h7⟩ := err_facts X G hm T c e
  exact ⟨⟨C, fI, fd, _, h1, h2, h3, h4, h5, h7⟩⟩
end
end DL

set_option Elab.async false
set_option linter.all false
set_option maxRecDepth 100000
set_option maxHeartbeats 4000000
/-! DL39: a display of names: as they are where nothing of them is owned, else shared from now on. -/
namespace DL
open PySem PySem.Spec PyProof.Rows L2
def allSol (qs : Env → Option (List D)) (ρ : Env) : Bool := match qs ρ with
  | some ds => solids ds
  | none => false
def dispA (k : List D → Option D) (qs : Env → Option (List D)) (g : Env → Res D) : Env → Res D := fun ρ => if allSol qs ρ = true then qE (qOp k qs) ρ else g ρ
theorem de_dispA {X : Cx} {W : WX} {e : Expr} {k : List D → Option D} {qs : Env → Option (List D)} {g : Env → Res D} (h1 : DE X W e (qE (qOp k qs))) (h2 : DE X W e g) : DE X W e (dispA k qs g) := de_either (fun ρ => allSol qs ρ = true) h1 h2
end DL

set_option Elab.async false
set_option linter.all false
set_option maxRecDepth 100000
set_option maxHeartbeats 4000000
/-! DL40: the head: a hook with one more Bool and the __init__s of errors; what the law's call wants. -/
namespace DL
open PySem PySem.Spec PyProof.Rows L2 He

theorem fun_ofD {K : PySem.W.Frag} {x qual : Str} {st : Stmt} {f : Addr} {fd : FuncData} (F : FunD K x qual (defArgs st) (defBody st) (defScope st) [] [] f fd) : Fun K x qual st f fd := by
  obtain ⟨oc, od, dV, kV, doc, pm, an, cdv, ct, osl, rfl, lk, hcd, hD, hK⟩ := F.ex
  rcases hD with ⟨_, rfl⟩ | ⟨e, _⟩
  · exact ⟨⟨oc, od, kV, doc, pm, an, cdv, ct, osl, rfl, lk, hcd⟩, F.kp⟩
  · exact absurd rfl e
theorem meets_of {G : Gam} {m : List D → FR} {H : Hp} {a : Addr} {ns : List Int} (h : m [.lst false (ns.map D.int)] = .ok (.bl true) [none]) (hO : Only H) (hS : SqL G.K H a (ns.map V.int)) :
    spN G 1 m [.ref a] H (fun v _ => v = .bl true) fun _ _ _ => False := by
  refine ⟨rfl, fun b => H b ≠ none, [.lst false (ns.map D.int)], [], ⟨List.nodup_nil, (fun _ z => nomatch z), (fun _ z => nomatch z), fun _ z => z⟩, ?_, ?_⟩
  · have rs : ∀ l : List Int, Rs G (fun b => H b ≠ none) H (l.map V.int) (l.map D.int) [] := fun l => by
      induction l with
      | nil => exact .nil
      | cons i l ih => exact .cons (f1 := []) (f2 := []) (.int i) ih
    refine .cons (f1 := []) (f2 := []) (.lstF ?_ (rs ns)) .nil
    rcases hS with r | r
    · refine .inl ⟨?_, r⟩
      rcases r with r | ⟨o, r⟩ <;> · rw [r]; exact fun z => nomatch z
    · exact .inr (.inr r)
  · rw [h]
    intro v F' H' fv fo _ _ r _
    cases r
    rfl

/-! ### the hook -/
abbrev AlZ : Type := AlD × (Bool × List ErV)
def obsZ (fa : List Fa) (fn : List DefD) (ex : PySem.W.Frag → Bool) (es : List ErD) (K : PySem.W.Frag) : AlZ := (obsD fa fn K, (ex K, es.map fun d => erW K d.x))
def valZ (fn : List DefD) (es : List ErD) : AlZ := (He.valD fn, (true, es.map ErD.val))
def SaysZ (fa : List Fa) (fn : List DefD) (ex : PySem.W.Frag → Bool) (es : List ErD) (K : PySem.W.Frag) : Prop := obsZ fa fn ex es K = valZ fn es
def obsZG (n : Nat) (fa : List Fa) (fn : List DefD) (ex : PySem.W.Frag → Bool) (es : List ErD) (g : Addr → Option Obj) : AlZ := obsZ fa fn ex es (frG g (sysModules :: cStatics :: asD g n))
def hookZ (n : Nat) (fa : List Fa) (fn : List DefD) (ex : PySem.W.Frag → Bool) (es : List ErD) : PySem.W.Hook where
  α := AlZ
  obs := fun s => obsZG n fa fn ex es s.heap.get?
  val := fun _ => valZ fn es
  says := fun _ h => ∃ K : PySem.W.Frag, K.In h ∧ SaysZ fa fn ex es K
  of := fun _ _ e => ⟨_, frG_in, e⟩
  keeps := fun _ _ _ ⟨K, hK, c⟩ k => ⟨K, PySem.W.Frag.In.keeps hK k, c⟩
theorem obsZG_eq {n : Nat} {fa : List Fa} {fn : List DefD} {ex : PySem.W.Frag → Bool} {es : List ErD} {g : Addr → Option Obj} {s : Shared} (h : ∀ a, g a = s.heap.get? a) : obsZG n fa fn ex es g = (hookZ n fa fn ex es).obs s := by
  have e : g = s.heap.get? := funext h
  rw [e] <;> rfl
section
variable {fa : List Fa} {fn : List DefD} {ex : PySem.W.Frag → Bool} {es : List ErD} {K : PySem.W.Frag}
theorem SaysZ.base (c : SaysZ fa fn ex es K) : SaysD fa fn K := congrArg (fun z : AlZ => z.1) c
theorem SaysZ.more (c : SaysZ fa fn ex es K) : ex K = true := congrArg (fun z : AlZ => z.2.1) c
theorem SaysZ.err (c : SaysZ fa fn ex es K) (i : Nat) {d : ErD} (h : es[i]? = some d := by rfl) : erW K d.x = d.val := by
  have e : es.map (fun d => erW K d.x) = es.map ErD.val := congrArg (fun z : AlZ => z.2.2) c
  have e2 : (es.map fun d => erW K d.x)[i]? = (es.map ErD.val)[i]? := by rw [e]
  rw [List.getElem?_map, List.getElem?_map, h] at e2
  exact Option.some.inj e2
end
end DL

set_option Elab.async false
set_option linter.all false
set_option maxRecDepth 100000
set_option maxHeartbeats 4000000
/-! DM1: the numbers that a law draws: begun, mixed, take, pick. -/
namespace DL
open PySem PySem.Spec PyProof.Rows L2

/-! ### lists of numbers -/
abbrev dIs (l : List Int) : List D := l.map .int
theorem solids_ints : ∀ l : List Int, solids (dIs l) = true
  | [] => rfl
  | i :: l => by simp [solids, solid, solids_ints l]
theorem frzs_ints (l : List Int) : frzs (dIs l) = dIs l := frzs_solid _ (solids_ints l)
theorem toPys_ints : ∀ l : List Int, toPys (dIs l) = some (l.map .int)
  | [] => rfl
  | i :: l => by simp [toPys, toPy, toPys_ints l]

/-! ### the operators at numbers -/
theorem addD_int (a b : Int) : addD (.int a) (.int b) = some (.int (a + b)) := rfl
theorem subI_int (a b : Int) : subI (.int a) (.int b) = some (.int (a - b)) := rfl
theorem intK_pos {C : Int → Int → Bool} {g : Int → Int → D} {a b : Int} (h : C a b = true) : intK C g (.int a) (.int b) = some (g a b) := if_pos h
theorem mulD_int {a b : Int} (h : a.natAbs.log2 + b.natAbs.log2 < 1000000) : mulD (.int a) (.int b) = some (.int (a * b)) := by
  unfold mulD orK
  rw [intK_pos (decide_eq_true h)]
theorem modI_int {a b : Int} (h : 0 < b) : modI (.int a) (.int b) = some (.int (a % b)) := by
  exact intK_pos (decide_eq_true h)
theorem fdivI_int {a b : Int} (h : 0 < b ∧ b < 1073741824) : fdivI (.int a) (.int b) = some (.int (a / b)) := by
  exact intK_pos (decide_eq_true h)
theorem powI_int {a b : Int} (h : 0 ≤ b ∧ b ≤ 1000000 ∧ a.natAbs < 2 ^ 64) : powI (.int a) (.int b) = some (.int (a ^ b.toNat)) := by
  exact intK_pos (decide_eq_true h)

/-! ### what the helpers mean -/
noncomputable def bBegun : DL.Env → SR :=
  (seqS (asgS 1 (compBE 0 (tgN 2) (tstQ (qOp (lift2 geD) (q2 (qOp (lift1 absK) (qCons (qN 2) qNil)) (qOp (lift2 powI) (q2 (qK (.int 10)) (qK (.int 18))))))) (qE (qOp (lift2 subI) (q2 (qOp (lift1 absK) (qCons (qN 2) qNil)) (qOp (lift2 powI) (q2 (qK (.int 10)) (qK (.int 18))))))) [2]))
  (retS (dispE [(Sum.inr "large", (mv 1)), (Sum.inr "rest", (qE (qK (.int 0)))), (Sum.inr "cells", (compBE 0 (tgN 2) yesB (qE (qOp (lift1 absK) (qCons (qN 2) qNil))) [2])), (Sum.inr "turn", (qE (qK (.int 0))))])))
noncomputable def mBegun : List D → FR := runD 3 [0] bBegun
noncomputable def bGrain : DL.Env → SR := asgS 4 (qE (qOp (lift2 modI) (q2 (qOp (lift2 addD) (q2 (qOp (lift2 mulD) (q2 (qN 4) (qK (.int 48271)))) (qOp (lift1 intKd) (qCons (qN 5) qNil)))) (qN 3))))
noncomputable def bPrime : DL.Env → SR :=
  (seqS (asgS 4 (qE (qOp (lift2 modI) (q2 (qOp (lift2 addD) (q2 (qOp (lift2 mulD) (q2 (qN 1) (qK (.int 69621)))) (qOp (lift2 fdivI) (q2 (qN 3) (qK (.int 7)))))) (qN 3)))))
  (seqS (forS (srcV (cpA (qSub (qN 0) (qK (.str "cells"))) 0 (pKey pNil (qK (.str "cells"))))) (tgN 5) bGrain)
  (asgS 2 (qE (qOp (lift2 addD) (q2 (qOp (lift2 mulD) (q2 (qN 2) (qK (.int 2147483647)))) (qOp (lift2 modI) (q2 (qOp (lift2 powI) (q2 (qN 4) (qK (.int 5)))) (qN 3)))))))))
noncomputable def bMixed : DL.Env → SR :=
  (seqS (putS 0 pNil (qK (.str "turn")) (qE (qOp (lift2 addD) (q2 (qSub (qN 0) (qK (.str "turn"))) (qK (.int 1))))))
  (seqS (parS 1 2 (itOne (qE (qOp (lift1 intKd) (qCons (qSub (qN 0) (qK (.str "turn"))) qNil))) (itOne (qE (qK (.int 0))) itNil)))
  (seqS (forS (srcV (qE (qOp dLst (qCons (qK (.int 2147483629)) (qCons (qK (.int 2147483587)) (qCons (qK (.int 2147483579)) qNil)))))) (tgN 3) bPrime)
  (retS (mv 2)))))
noncomputable def mMixed : List D → FR := runD 6 [0] bMixed
noncomputable def bTake : DL.Env → SR :=
  (seqS (ifS (tstQ (qOp (lift2 eqD) (q2 (qSub (qN 0) (qK (.str "rest"))) (qK (.int 0))))) (putS 0 pNil (qK (.str "rest")) (ifE (tstQ (qOp (lift2 neD) (q2 (qSub (qN 0) (qK (.str "large"))) (qOp dLst qNil)))) (mutP "list" mPop 0 (pKey pNil (qK (.str "large"))) (qCons (qK (.int 0)) qNil)) (callD mMixed [.nm 0]))) nxS)
  (seqS (asgS 2 (qE (qOp (lift2 modI) (q2 (qOp (lift1 intKd) (qCons (qSub (qN 0) (qK (.str "rest"))) qNil)) (qN 1)))))
  (seqS (putS 0 pNil (qK (.str "rest")) (qE (qOp (lift2 fdivI) (q2 (qOp (lift1 intKd) (qCons (qSub (qN 0) (qK (.str "rest"))) qNil)) (qN 1)))))
  (retS (mv 2)))))
noncomputable def mTake : List D → FR := runD 3 [0, 1] bTake
noncomputable def bPick : DL.Env → SR :=
  (retS (pureOp (lift2 ixL) [.nm 1, .ex (callD mTake [.nm 0, .ex (qE (qOp lenD (qCons (qN 1) qNil)))])]))
noncomputable def mPick : List D → FR := runD 2 [0, 1] bPick

/-! ### the state -/
def dr (l : List Int) (r : Int) (u : Bool) (c : List Int) (t : Int) : D := .dic true [(.inl (.inr "large"), .lst true (dIs l)), (.inl (.inr "rest"), .int r), (.inl (.inr "cells"), .lst u (dIs c)), (.inl (.inr "turn"), .int t)]
structure DrS (n : Nat) (l : List Int) (r : Int) (c : List Int) (t : Int) : Prop where
  hl : ∀ i ∈ l, 0 ≤ i
  hr : 0 ≤ r
  hc : ∀ i ∈ c, 0 ≤ i
  t0 : 0 ≤ t
  tn : t ≤ n
  c63 : c.length ≤ 63
  l63 : l.length ≤ 63
def DrOk (n : Nat) (d : D) : Prop := ∃ l r u c t, d = dr l r u c t ∧ DrS n l r c t
section
variable {l c : List Int} {r t : Int} {u : Bool}
theorem dr_solid : solid (dr l r u c t) = false := rfl
theorem dr_rest : subK (dr l r u c t) (.str "rest") = some (.int r) := by kernel_rfl
theorem dr_large : subK (dr l r u c t) (.str "large") = some (.lst true (dIs l)) := by kernel_rfl
theorem dr_cells : subK (dr l r u c t) (.str "cells") = some (.lst u (dIs c)) := by kernel_rfl
theorem dr_turn : subK (dr l r u c t) (.str "turn") = some (.int t) := by kernel_rfl
theorem dr_getc : getP (dr l r u c t) [.inr "cells"] = some (.lst u (dIs c)) := by kernel_rfl
theorem dr_putc {v : Bool} {c2 : List Int} : putP (dr l r u c t) [.inr "cells"] (.lst v (dIs c2)) = dr l r v c2 t := by kernel_rfl
theorem dr_getl : getP (dr l r u c t) [.inr "large"] = some (.lst true (dIs l)) := by kernel_rfl
theorem dr_putl {l2 : List Int} : putP (dr l r u c t) [.inr "large"] (.lst true (dIs l2)) = dr l2 r u c t := by kernel_rfl
theorem put_turn {j : Int} {f : Env → Res D} {ρ ρ1 : Env} (hf : f ρ = .ok (.int j) ρ1) (h0 : ρ1[0]? = some (some (dr l r u c t))) : putS 0 pNil (qK (.str "turn")) f ρ = .nx (ρ1.set 0 (some (dr l r u c j))) := by
  unfold putS
  rw [hf]
  show (match pNil ρ1, ρ1[0]?, qK (.str "turn") ρ1 with
    | some ss, some (some d0), some dk => match getP d0 ss, dkey dk with
      | some (.dic true kvs), some k => if (plainKeys kvs && decide (kvs.length < sizeLine)) = true then SR.nx (ρ1.set 0 (some (putP d0 ss (.dic true (putD kvs (.inl k) (.int j)))))) else .stuck
      | _, _ => .stuck
    | _, _, _ => .stuck) = _
  rw [h0]
  kernel_rfl
theorem put_rest {j : Int} {f : Env → Res D} {ρ ρ1 : Env} (hf : f ρ = .ok (.int j) ρ1) (h0 : ρ1[0]? = some (some (dr l r u c t))) : putS 0 pNil (qK (.str "rest")) f ρ = .nx (ρ1.set 0 (some (dr l j u c t))) := by
  unfold putS
  rw [hf]
  show (match pNil ρ1, ρ1[0]?, qK (.str "rest") ρ1 with
    | some ss, some (some d0), some dk => match getP d0 ss, dkey dk with
      | some (.dic true kvs), some k => if (plainKeys kvs && decide (kvs.length < sizeLine)) = true then SR.nx (ρ1.set 0 (some (putP d0 ss (.dic true (putD kvs (.inl k) (.int j)))))) else .stuck
      | _, _ => .stuck
    | _, _, _ => .stuck) = _
  rw [h0]
  kernel_rfl
end

/-! ### mixed -/
theorem log2_lt {i : Int} {k : Nat} (h0 : 0 ≤ i) (h : i < 2 ^ k) : i.natAbs.log2 ≤ k := by
  by_cases z : i.natAbs = 0
  · rw [z]; simp
  · have : i.natAbs < 2 ^ k := by
      have e : (i.natAbs : Int) = i := Int.natAbs_of_nonneg h0
      have : (i.natAbs : Int) < ((2 ^ k : Nat) : Int) := by rw [e]; push_cast; exact h
      exact_mod_cast this
    exact Nat.le_of_lt ((Nat.log2_lt z).mpr this)
section
variable {d : D} {t f p b : Int} {x5 : Option D}
theorem grain_ok (hp : p = 2147483629 ∨ p = 2147483587 ∨ p = 2147483579) (hb : 0 ≤ b ∧ b < 2147483648) (g : Int) :
    ∃ b2 : Int, (0 ≤ b2 ∧ b2 < 2147483648) ∧ bGrain [some d, some (.int t), some (.int f), some (.int p), some (.int b), some (.int g)] = .nx [some d, some (.int t), some (.int f), some (.int p), some (.int b2), some (.int g)] := by
  have g1 : b.natAbs.log2 + (48271 : Int).natAbs.log2 < 1000000 := by
    have h1 := log2_lt (k := 31) hb.1 (by omega)
    have h2 : (48271 : Int).natAbs.log2 = 15 := by decide +kernel
    omega
  have hp0 : 0 < p := by omega
  refine ⟨(b * 48271 + g) % p, ⟨Int.emod_nonneg _ (by omega), Int.lt_trans (Int.emod_lt_of_pos _ hp0) (by omega)⟩, ?_⟩
  simp [bGrain, asgS, qE, qOp, lift2, lift1, q2, qCons, qNil, qN, qK, intKd, mulD_int g1, addD_int, modI_int hp0, bindS]
theorem grains_ok (hp : p = 2147483629 ∨ p = 2147483587 ∨ p = 2147483579) : ∀ (c : List Int) (b : Int) (x5 : Option D), (0 ≤ b ∧ b < 2147483648) →
    ∃ (b2 : Int) (y5 : Option D), (0 ≤ b2 ∧ b2 < 2147483648) ∧ forL (tgN 5) bGrain (dIs c) [some d, some (.int t), some (.int f), some (.int p), some (.int b), x5] = .nx [some d, some (.int t), some (.int f), some (.int p), some (.int b2), y5]
  | [], b, x5, hb => ⟨b, x5, hb, rfl⟩
  | g :: c, b, x5, hb => by
    obtain ⟨b1, h1, e1⟩ := grain_ok (d := d) (t := t) (f := f) hp hb g
    obtain ⟨b2, y5, h2, e2⟩ := grains_ok hp c b1 (some (.int g)) h1
    refine ⟨b2, y5, h2, ?_⟩
    show loopR (bGrain [some d, some (.int t), some (.int f), some (.int p), some (.int b), some (.int g)]) (forL (tgN 5) bGrain (dIs c)) = _
    rw [e1]
    exact e2
end
section
variable {l c : List Int} {r t f p : Int} {u : Bool} {x3 x4 x5 : Option D}
theorem cells_src (hu : u = true ∨ u = false) {ρ : Env} (h0 : ρ[0]? = some (some (dr l r u c t))) : srcV (cpA (qSub (qN 0) (qK (.str "cells"))) 0 (pKey pNil (qK (.str "cells")))) ρ = .ok (dIs c) (ρ.set 0 (some (dr l r false c t))) := by
  have e1 : qSub (qN 0) (qK (.str "cells")) ρ = some (.lst u (dIs c)) := by
    simp [qSub, qOp, q2, qCons, qNil, qN, qK, h0, lift2, dr_cells]
  rcases hu with rfl | rfl
  · simp [srcV, cpA, isSol, e1, solid, cpP, pKey, pNil, qK, dkey, h0, dr_getc, frz, frzs_ints, dr_putc, iterD]
  · have h1 : ρ.set 0 (some (dr l r false c t)) = ρ := by
      apply List.ext_getElem?
      intro i
      rw [List.getElem?_set]
      split
      · rename_i z
        subst z
        rw [h0]
        have : 0 < ρ.length := by
          cases ρ
          · cases h0
          · simp
        simp [this]
      · rfl
    simp [srcV, cpA, isSol, e1, solid, solids_ints, sol, qE, iterD, frzs_ints, h1]
theorem prime_ok (hp : p = 2147483629 ∨ p = 2147483587 ∨ p = 2147483579) (ht : 0 ≤ t ∧ t < 2 ^ 60) (hf : 0 ≤ f ∧ f < 2 ^ 100000) :
    ∃ (f2 : Int) (y4 y5 : Option D), (0 ≤ f2 ∧ f2 < (f + 1) * 2 ^ 32) ∧ bPrime [some (dr l r u c t), some (.int t), some (.int f), some (.int p), x4, x5] = .nx [some (dr l r false c t), some (.int t), some (.int f2), some (.int p), y4, y5] := by
  have hp0 : 0 < p := by omega
  have g1 : t.natAbs.log2 + (69621 : Int).natAbs.log2 < 1000000 := by
    have h1 := log2_lt ht.1 ht.2
    have h2 : (69621 : Int).natAbs.log2 = 16 := by decide +kernel
    omega
  have g2 : f.natAbs.log2 + (2147483647 : Int).natAbs.log2 < 1000000 := by
    have h1 := log2_lt hf.1 hf.2
    have h2 : (2147483647 : Int).natAbs.log2 = 30 := by decide +kernel
    omega
  have e1 : asgS 4 (qE (qOp (lift2 modI) (q2 (qOp (lift2 addD) (q2 (qOp (lift2 mulD) (q2 (qN 1) (qK (.int 69621)))) (qOp (lift2 fdivI) (q2 (qN 3) (qK (.int 7)))))) (qN 3)))) [some (dr l r u c t), some (.int t), some (.int f), some (.int p), x4, x5] =
      .nx [some (dr l r u c t), some (.int t), some (.int f), some (.int p), some (.int ((t * 69621 + p / 7) % p)), x5] := by
    simp [asgS, qE, qOp, lift2, q2, qCons, qNil, qN, qK, mulD_int g1, addD_int, modI_int hp0, fdivI_int (a := p) (b := 7) (by omega), bindS]
  have hb : 0 ≤ (t * 69621 + p / 7) % p ∧ (t * 69621 + p / 7) % p < 2147483648 := ⟨Int.emod_nonneg _ (by omega), Int.lt_trans (Int.emod_lt_of_pos _ hp0) (by omega)⟩
  obtain ⟨b2, y5, hb2, e2⟩ := grains_ok (d := dr l r false c t) (t := t) (f := f) hp c _ x5 hb
  have hm : 0 ≤ b2 ^ 5 % p ∧ b2 ^ 5 % p < 2147483648 := ⟨Int.emod_nonneg _ (by omega), Int.lt_trans (Int.emod_lt_of_pos _ hp0) (by omega)⟩
  have g3 : b2.natAbs < 2 ^ 64 := by omega
  refine ⟨f * 2147483647 + b2 ^ 5 % p, some (.int b2), y5, ⟨by have := hf.1; omega, ?_⟩, ?_⟩
  · have := hf.1
    have e : (f + 1) * 2 ^ 32 = f * 4294967296 + 4294967296 := by rw [Int.add_mul]; rfl
    rw [e]
    omega
  · unfold bPrime seqS
    rw [e1]
    simp only [forS]
    rw [cells_src (l := l) (r := r) (u := u) (c := c) (t := t) (by cases u <;> simp) rfl]
    simp only [bindS, List.set_cons_zero]
    rw [e2]
    simp [asgS, qE, qOp, lift2, q2, qCons, qNil, qN, qK, mulD_int g2, addD_int, modI_int hp0, powI_int (a := b2) (b := 5) ⟨by omega, by omega, g3⟩, bindS]
theorem mixed_ok {n : Nat} (h : DrS n l r c t) (hn : n < 2 ^ 59) : ∃ k : Int, mMixed [dr l r u c t] = .ok (.int k) [some (dr l r false c (t + 1))] ∧ 0 ≤ k := by
  have ht : 0 ≤ t + 1 ∧ t + 1 < 2 ^ 60 := by
    have h0 := h.t0
    have h1 := h.tn
    refine ⟨by omega, ?_⟩
    have : (n : Int) < 2 ^ 59 := by exact_mod_cast hn
    omega
  have a1 : putS 0 pNil (qK (.str "turn")) (qE (qOp (lift2 addD) (q2 (qSub (qN 0) (qK (.str "turn"))) (qK (.int 1))))) [some (dr l r u c t), none, none, none, none, none] = .nx [some (dr l r u c (t + 1)), none, none, none, none, none] :=
    put_turn (j := t + 1) (ρ1 := [some (dr l r u c t), none, none, none, none, none]) (by simp [qE, qOp, lift2, q2, qCons, qNil, qSub, qN, qK, dr_turn, addD_int]) rfl
  have a2 : parS 1 2 (itOne (qE (qOp (lift1 intKd) (qCons (qSub (qN 0) (qK (.str "turn"))) qNil))) (itOne (qE (qK (.int 0))) itNil)) [some (dr l r u c (t + 1)), none, none, none, none, none] = .nx [some (dr l r u c (t + 1)), some (.int (t + 1)), some (.int 0), none, none, none] := by
    simp [parS, itOne, itNil, qE, qOp, lift1, lift2, q2, qCons, qNil, qSub, qN, qK, dr_turn, intKd, bindS]
  obtain ⟨f1, y4, y5, k1, e1⟩ := prime_ok (l := l) (r := r) (u := u) (c := c) (t := t + 1) (f := 0) (p := 2147483629) (x4 := none) (x5 := none) (.inl rfl) ht ⟨by omega, by decide +kernel⟩
  have q1 : f1 < 2 ^ 100000 := Int.lt_trans k1.2 (by decide +kernel)
  obtain ⟨f2, z4, z5, k2, e2⟩ := prime_ok (l := l) (r := r) (u := false) (c := c) (t := t + 1) (f := f1) (p := 2147483587) (x4 := y4) (x5 := y5) (.inr (.inl rfl)) ht ⟨k1.1, q1⟩
  have q2 : f2 < 2 ^ 100000 := by
    have h32 : f1 < 2 ^ 32 := by have := k1.2; simpa using this
    have : (f1 + 1) * 2 ^ 32 ≤ 2 ^ 32 * 2 ^ 32 := Int.mul_le_mul_of_nonneg_right (by omega) (by decide)
    exact Int.lt_trans (Int.lt_of_lt_of_le k2.2 this) (by decide +kernel)
  obtain ⟨f3, w4, w5, k3, e3⟩ := prime_ok (l := l) (r := r) (u := false) (c := c) (t := t + 1) (f := f2) (p := 2147483579) (x4 := z4) (x5 := z5) (.inr (.inr rfl)) ht ⟨k2.1, q2⟩
  have a3 : forS (srcV (qE (qOp dLst (qCons (qK (.int 2147483629)) (qCons (qK (.int 2147483587)) (qCons (qK (.int 2147483579)) qNil)))))) (tgN 3) bPrime [some (dr l r u c (t + 1)), some (.int (t + 1)), some (.int 0), none, none, none] =
      .nx [some (dr l r false c (t + 1)), some (.int (t + 1)), some (.int f3), some (.int 2147483579), w4, w5] := by
    have s : srcV (qE (qOp dLst (qCons (qK (.int 2147483629)) (qCons (qK (.int 2147483587)) (qCons (qK (.int 2147483579)) qNil))))) [some (dr l r u c (t + 1)), some (.int (t + 1)), some (.int 0), none, none, none] = .ok [.int 2147483629, .int 2147483587, .int 2147483579] [some (dr l r u c (t + 1)), some (.int (t + 1)), some (.int 0), none, none, none] := by
      have h3 : (3 : Nat) ≤ sizeLine := by decide +kernel
      simp [srcV, qE, qOp, qCons, qNil, qK, dLst, solids, solid, h3, iterD, frzs, frz]
    unfold forS
    rw [s]
    simp only [bindS, forL, tgN, List.set_cons_succ, List.set_cons_zero]
    rw [e1]
    simp only [loopR, forL, tgN, List.set_cons_succ, List.set_cons_zero]
    rw [e2]
    simp only [loopR, forL, tgN, List.set_cons_succ, List.set_cons_zero]
    rw [e3]
  refine ⟨f3, ?_, k3.1⟩
  show runD 6 [0] bMixed [dr l r u c t] = _
  unfold runD bMixed
  show (match seqS _ _ [some (dr l r u c t), none, none, none, none, none] with
    | .nx ρ => FR.ok .non (outsOf [0] 0 [dr l r u c t] ρ)
    | .rt d ρ => .ok d (outsOf [0] 0 [dr l r u c t] ρ)
    | .err e ρ => .err e (outsOf [0] 0 [dr l r u c t] ρ)
    | _ => .stuck) = _
  simp only [seqS]
  rw [a1]
  simp only []
  rw [a2]
  simp only []
  rw [a3]
  simp [retS, mv, bindS, outsOf, dr_solid]
end
end DL

set_option Elab.async false
set_option linter.all false
set_option maxRecDepth 100000
set_option maxHeartbeats 4000000
/-! DM2: a comprehension over one name; begun, take, pick. -/
namespace DL
open PySem PySem.Spec PyProof.Rows L2

theorem set_set_none {ρ : Env} {v : Nat} {d : D} (hv : ρ[v]? = some none) : (ρ.set v (some d)).set v none = ρ := by
  rw [List.set_set]
  apply List.ext_getElem?
  intro i
  rw [List.getElem?_set]
  split
  · rename_i z
    subst z
    rw [hv]
    have : v < ρ.length := by
      rcases Nat.lt_or_ge v ρ.length with h | h
      · exact h
      · rw [List.getElem?_eq_none h] at hv; cases hv
    simp [this]
  · rfl
theorem set_none_same {ρ : Env} {v : Nat} (hv : ρ[v]? = some none) : ρ.set v none = ρ := by
  have := set_set_none (d := .non) hv
  rwa [List.set_set] at this
theorem compL_name {v : Nat} {t : Env → Res Bool} {f : Env → Res D} {T : D → Bool} {F : D → D} {ρ : Env} (hv : ρ[v]? = some none) :
    ∀ ds : List D, (∀ d ∈ ds, t (ρ.set v (some d)) = .ok (T d) (ρ.set v (some d)) ∧ (T d = true → f (ρ.set v (some d)) = .ok (F d) (ρ.set v (some d)))) → compL (tgN v) t f [v] ds ρ = .ok ((ds.filter T).map fun d => frz (F d)) ρ
  | [], _ => rfl
  | d :: ds, h => by
    obtain ⟨h1, h2⟩ := h d List.mem_cons_self
    have ih := compL_name hv ds fun x m => h x (List.mem_cons_of_mem _ m)
    have wp : wipeE (ρ.set v (some d)) [v] = ρ := set_set_none hv
    unfold compL
    simp only [tgN]
    rw [h1]
    simp only [Res.bind_ok]
    by_cases hT : T d = true
    · rw [if_pos hT, h2 hT]
      simp only [Res.bind_ok]
      rw [wp, ih]
      simp [List.filter_cons, hT]
    · rw [if_neg hT, wp, ih]
      simp [List.filter_cons, hT]
theorem compE_name {v : Nat} {src : Env → Res (List D)} {t : Env → Res Bool} {f : Env → Res D} {T : D → Bool} {F : D → D} {ρ ρ0 : Env} {ds : List D} (hs : src ρ = .ok ds ρ0) (hv : ρ0[v]? = some none)
    (h : ∀ d ∈ ds, t (ρ0.set v (some d)) = .ok (T d) (ρ0.set v (some d)) ∧ (T d = true → f (ρ0.set v (some d)) = .ok (F d) (ρ0.set v (some d)))) :
    compE src (tgN v) t f [v] ρ = .ok (.lst true ((ds.filter T).map fun d => frz (F d))) ρ0 := by
  unfold compE
  rw [hs]
  simp only [Res.bind_ok]
  rw [show wipeE ρ0 [v] = ρ0 from set_none_same hv, compL_name hv ds h]
  simp [Res.nox, restE, hv]

/-! ### begun -/
theorem abs_ok (g : Int) : absK (.int g) = some (.int (if g < 0 then -g else g)) := rfl
theorem begun_ok (s : List Int) (hs : s.length ≤ 63) : ∃ d, mBegun [.lst false (dIs s)] = .ok d [none] ∧ DrOk 0 d := by
  let ab : Int → Int := fun g => if g < 0 then -g else g
  have ab0 : ∀ g, 0 ≤ ab g := fun g => by show 0 ≤ (if g < 0 then -g else g); split <;> omega
  let lg : List Int := (s.filter fun g => decide (1000000000000000000 ≤ ab g)).map fun g => ab g - 1000000000000000000
  have sz : (18 : Int) ≤ 1000000 := by omega
  have g1 : ((10 : Int).natAbs < 2 ^ 64) := by decide
  have src : ∀ ρ : Env, ρ[0]? = some (some (.lst false (dIs s))) → srcN 0 ρ = .ok (dIs s) ρ := fun ρ h => by
    simp [srcN, srcV, qE, sol, qN, h, solid, solids_ints, iterD, frzs_ints]
  have c1 : compBE 0 (tgN 2) (tstQ (qOp (lift2 geD) (q2 (qOp (lift1 absK) (qCons (qN 2) qNil)) (qOp (lift2 powI) (q2 (qK (.int 10)) (qK (.int 18))))))) (qE (qOp (lift2 subI) (q2 (qOp (lift1 absK) (qCons (qN 2) qNil)) (qOp (lift2 powI) (q2 (qK (.int 10)) (qK (.int 18))))))) [2] [some (.lst false (dIs s)), none, none] =
      .ok (.lst true (dIs lg)) [some (.lst false (dIs s)), none, none] := by
    unfold compBE
    show compE (srcN 0) _ _ _ _ _ = _
    rw [compE_name (v := 2) (ρ0 := [some (.lst false (dIs s)), none, none]) (ds := dIs s) (T := fun d => match d with | .int g => decide (1000000000000000000 ≤ ab g) | _ => false) (F := fun d => match d with | .int g => .int (ab g - 1000000000000000000) | _ => .non) (src _ rfl) rfl (fun d m => ?_)]
    · have e : ∀ s : List Int, ((dIs s).filter fun d => match d with | .int g => decide (1000000000000000000 ≤ ab g) | _ => false).map (fun d => frz (match d with | .int g => .int (ab g - 1000000000000000000) | _ => .non)) = dIs ((s.filter fun g => decide (1000000000000000000 ≤ ab g)).map fun g => ab g - 1000000000000000000) := fun s => by
        induction s with
        | nil => rfl
        | cons g s ih =>
          simp only [dIs, List.map_cons, List.filter_cons] at ih ⊢
          by_cases h : (1000000000000000000 : Int) ≤ ab g
          · simp [h, frz]
            simpa using ih
          · simp [h]
            simpa using ih
      rw [e s]
    · obtain ⟨g, _, rfl⟩ := List.mem_map.mp m
      refine ⟨?_, fun _ => ?_⟩
      · simp [tstQ, tst, qE, qOp, q2, qCons, qNil, qN, qK, lift1, lift2, abs_ok, powI, intK, geD, orK, yes2, isBl]
        rfl
      · simp [qE, qOp, q2, qCons, qNil, qN, qK, lift1, lift2, abs_ok, powI, subI, intK, yes2]
        rfl
  have c2 : compBE 0 (tgN 2) yesB (qE (qOp (lift1 absK) (qCons (qN 2) qNil))) [2] [some (.lst false (dIs s)), none, none] = .ok (.lst true (dIs (s.map ab))) [some (.lst false (dIs s)), none, none] := by
    unfold compBE
    show compE (srcN 0) _ _ _ _ _ = _
    rw [compE_name (v := 2) (ρ0 := [some (.lst false (dIs s)), none, none]) (ds := dIs s) (T := fun _ => true) (F := fun d => match d with | .int g => .int (ab g) | _ => .non) (src _ rfl) rfl (fun d m => ?_)]
    · have e : ∀ s : List Int, ((dIs s).filter fun _ => true).map (fun d => frz (match d with | .int g => .int (ab g) | _ => .non)) = dIs (s.map ab) := fun s => by
        induction s with
        | nil => rfl
        | cons g s ih => simpa [dIs, frz] using ih
      rw [e s]
    · obtain ⟨g, _, rfl⟩ := List.mem_map.mp m
      exact ⟨rfl, fun _ => rfl⟩
  have r1 : bBegun [some (.lst false (dIs s)), none, none] = .rt (dr lg 0 true (s.map ab) 0) [some (.lst false (dIs s)), none, none] := by
    unfold bBegun seqS
    simp only [asgS, c1, bindS, List.set_cons_succ, List.set_cons_zero]
    simp only [retS, dispE, itFs, itOne, itNil, mv, List.getElem?_cons_succ, List.getElem?_cons_zero, Res.bind_ok, qE, qK, List.set_cons_succ, List.set_cons_zero, c2, bindS]
    rfl
  refine ⟨dr lg 0 true (s.map ab) 0, ?_, lg, 0, true, s.map ab, 0, rfl, fun i m => ?_, by omega, fun i m => ?_, by omega, by omega, by simpa using hs, ?_⟩
  · show runD 3 [0] bBegun [.lst false (dIs s)] = _
    unfold runD
    show (match bBegun [some (.lst false (dIs s)), none, none] with
      | .nx ρ => FR.ok .non (outsOf [0] 0 [.lst false (dIs s)] ρ)
      | .rt d ρ => .ok d (outsOf [0] 0 [.lst false (dIs s)] ρ)
      | .err e ρ => .err e (outsOf [0] 0 [.lst false (dIs s)] ρ)
      | _ => .stuck) = _
    rw [r1]
    simp [outsOf, solid, solids_ints]
  · obtain ⟨g, hg, rfl⟩ := List.mem_map.mp m
    have := of_decide_eq_true (List.mem_filter.mp hg).2
    omega
  · obtain ⟨g, _, rfl⟩ := List.mem_map.mp m
    exact ab0 g
  · show ((s.filter _).map _).length ≤ 63
    rw [List.length_map]
    exact Nat.le_trans (List.length_filter_le _ _) hs

theorem forS_ok {src : Env → Res (List D)} {k : D → Env → Option Env} {b : Env → SR} {ρ ρ0 : Env} {its : List D} (h : src ρ = .ok its ρ0) : forS src k b ρ = forL k b its ρ0 := by
  unfold forS
  rw [h]
  rfl
theorem forL_nx {k : D → Env → Option Env} {b : Env → SR} {ρ ρ0 ρ1 : Env} {d : D} {its : List D} (h : k d ρ = some ρ0) (h2 : b ρ0 = .nx ρ1) : forL k b (d :: its) ρ = forL k b its ρ1 := by
  rw [forL]
  simp only [h]
  show loopR (b ρ0) (forL k b its) = _
  rw [h2]
  rfl
theorem seqS_nx {s t : Env → SR} {ρ ρ1 : Env} (h : s ρ = .nx ρ1) : seqS s t ρ = t ρ1 := by
  unfold seqS
  rw [h]
theorem bindS_ok {α : Type} {a : α} {ρ : Env} {k : α → Env → SR} : bindS (.ok a ρ) k = k a ρ := rfl

/-! ### take -/
theorem nx_ifS {c : Env → Res Bool} {s t : Env → SR} {ρ ρ1 : Env} {b : Bool} (h : c ρ = .ok b ρ1) : ifS c s t ρ = if b then s ρ1 else t ρ1 := by
  unfold ifS; rw [h]; rfl
theorem lay_ints : ∀ l : List Int, PyData.canLayAll0 (l.map PyData.int) = true
  | [] => rfl
  | i :: l => by simp [PyData.canLayAll0, PyData.canLay0, lay_ints l]
theorem deep_ints : ∀ l : List Int, PyData.depthAll (l.map PyData.int) = 0
  | [] => rfl
  | i :: l => by simp [PyData.depthAll, PyData.depth, deep_ints l]
theorem shaped_ints (l : List Int) : SeqAt.shaped (.list (l.map PyData.int)) = true := by
  simp [SeqAt.shaped, PyData.canLay0, lay_ints, PyData.depth, deep_ints]
theorem take_ok {l c : List Int} {r t : Int} {u : Bool} {n : Nat} {k : Int} (h : DrS n l r c t) (hn : n < 2 ^ 59) (hk : 0 < k ∧ k < 1073741824) :
    ∃ (j : Int) (l2 : List Int) (r2 : Int) (u2 : Bool) (t2 : Int), mTake [dr l r u c t, .int k] = .ok (.int j) [some (dr l2 r2 u2 c t2), none] ∧ (0 ≤ j ∧ j < k) ∧ DrS (n + 1) l2 r2 c t2 := by
  have key : ∃ l2 r2 u2 t2, DrS (n + 1) l2 r2 c t2 ∧ ifS (tstQ (qOp (lift2 eqD) (q2 (qSub (qN 0) (qK (.str "rest"))) (qK (.int 0))))) (putS 0 pNil (qK (.str "rest")) (ifE (tstQ (qOp (lift2 neD) (q2 (qSub (qN 0) (qK (.str "large"))) (qOp dLst qNil)))) (mutP "list" mPop 0 (pKey pNil (qK (.str "large"))) (qCons (qK (.int 0)) qNil)) (callD mMixed [.nm 0]))) nxS [some (dr l r u c t), some (.int k), none] = .nx [some (dr l2 r2 u2 c t2), some (.int k), none] := by
    have hq : tstQ (qOp (lift2 eqD) (q2 (qSub (qN 0) (qK (.str "rest"))) (qK (.int 0)))) [some (dr l r u c t), some (.int k), none] = .ok (decide (r = 0)) [some (dr l r u c t), some (.int k), none] := by
      simp [tstQ, tst, qE, qOp, q2, qCons, qNil, qSub, qN, qK, lift2, dr_rest, eqD, orK, eqSc, isBl]
    rw [nx_ifS hq]
    by_cases z : r = 0
    · subst z
      rw [if_pos (by simp)]
      cases l with
      | nil =>
        obtain ⟨m, e, m0⟩ := mixed_ok (u := u) h hn
        refine ⟨[], m, false, t + 1, ⟨h.hl, m0, h.hc, by have := h.t0; omega, by have := h.tn; push_cast; omega, h.c63, h.l63⟩, put_rest (r := 0) (ρ1 := [some (dr [] 0 false c (t + 1)), some (.int k), none]) ?_ rfl⟩
        have hq2 : tstQ (qOp (lift2 neD) (q2 (qSub (qN 0) (qK (.str "large"))) (qOp dLst qNil))) [some (dr [] 0 u c t), some (.int k), none] = .ok false [some (dr [] 0 u c t), some (.int k), none] := by
          simp [tstQ, tst, qE, qOp, q2, qCons, qNil, qSub, qN, qK, lift2, dr_large]
          rfl
        unfold ifE
        rw [hq2]
        simp only [Res.bind_ok, Bool.false_eq_true, if_false]
        unfold callD
        simp only [evalT, List.getElem?_cons_zero, Res.bind_ok, takeO, dr_solid, Bool.false_eq_true, if_false, List.set_cons_zero]
        rw [e]
        simp [putO, dr_solid]
      | cons g l =>
        refine ⟨l, g, u, t, ⟨fun i m => h.hl i (List.mem_cons_of_mem _ m), h.hl g List.mem_cons_self, h.hc, h.t0, by have := h.tn; push_cast; omega, h.c63, by have := h.l63; simp at this; omega⟩, put_rest (l := l) (r := 0) (u := u) (c := c) (t := t) (ρ1 := [some (dr l 0 u c t), some (.int k), none]) ?_ rfl⟩
        have hq2 : tstQ (qOp (lift2 neD) (q2 (qSub (qN 0) (qK (.str "large"))) (qOp dLst qNil))) [some (dr (g :: l) 0 u c t), some (.int k), none] = .ok true [some (dr (g :: l) 0 u c t), some (.int k), none] := by
          have e : eqPy (.lst true (.int g :: List.map D.int l)) (.lst true []) = some false := by
            show eqPy (.lst true (dIs (g :: l))) (.lst true []) = some false
            unfold eqPy
            have s1 := shaped_ints (g :: l)
            have s2 : SeqAt.shaped (.list []) = true := by decide +kernel
            simp only [toPy, toPys_ints, toPys, Option.map_some]
            rw [if_pos ⟨s1, s2⟩]
            rfl
          have h0 : (0 : Nat) ≤ sizeLine := Nat.zero_le _
          simp [tstQ, tst, qE, qOp, q2, qCons, qNil, qSub, qN, qK, lift2, dr_large, neD, orK, eqSc, dLst, solids, e, isBl]
        unfold ifE
        rw [hq2]
        simp only [Res.bind_ok, if_true]
        have sq : seqIndex? 0 (l.length + 1) = some 0 := by simp [seqIndex?]
        simp only [mutP, pKey, pNil, qK, dkey, Option.map_some, List.nil_append, List.getElem?_cons_zero, qCons, qNil, dr_getl, tyD, mPop]
        simp [solids, solid, solids_ints, sq]
        exact dr_putl
    · rw [if_neg (by simpa using z)]
      exact ⟨l, r, u, t, ⟨h.hl, h.hr, h.hc, h.t0, by have := h.tn; push_cast; omega, h.c63, h.l63⟩, rfl⟩
  obtain ⟨l2, r2, u2, t2, ok2, e1⟩ := key
  have a2 : asgS 2 (qE (qOp (lift2 modI) (q2 (qOp (lift1 intKd) (qCons (qSub (qN 0) (qK (.str "rest"))) qNil)) (qN 1)))) [some (dr l2 r2 u2 c t2), some (.int k), none] = .nx [some (dr l2 r2 u2 c t2), some (.int k), some (.int (r2 % k))] := by
    simp [asgS, qE, qOp, q2, qCons, qNil, qSub, qN, qK, lift1, lift2, dr_rest, intKd, modI, intK, hk.1, bindS]
  have a3 : putS 0 pNil (qK (.str "rest")) (qE (qOp (lift2 fdivI) (q2 (qOp (lift1 intKd) (qCons (qSub (qN 0) (qK (.str "rest"))) qNil)) (qN 1)))) [some (dr l2 r2 u2 c t2), some (.int k), some (.int (r2 % k))] = .nx [some (dr l2 (r2 / k) u2 c t2), some (.int k), some (.int (r2 % k))] :=
    put_rest (ρ1 := [some (dr l2 r2 u2 c t2), some (.int k), some (.int (r2 % k))]) (by simp [qE, qOp, q2, qCons, qNil, qSub, qN, qK, lift1, lift2, dr_rest, intKd, fdivI, intK, hk.1, hk.2]) rfl
  refine ⟨r2 % k, l2, r2 / k, u2, t2, ?_, ⟨Int.emod_nonneg _ (by omega), Int.emod_lt_of_pos _ hk.1⟩, ⟨ok2.hl, Int.ediv_nonneg ok2.hr (by omega), ok2.hc, ok2.t0, ok2.tn, ok2.c63, ok2.l63⟩⟩
  · show (match seqS _ _ [some (dr l r u c t), some (.int k), none] with
      | .nx ρ => FR.ok .non (outsOf [0, 1] 0 [dr l r u c t, .int k] ρ)
      | .rt d ρ => .ok d (outsOf [0, 1] 0 [dr l r u c t, .int k] ρ)
      | .err e ρ => .err e (outsOf [0, 1] 0 [dr l r u c t, .int k] ρ)
      | _ => .stuck) = _
    simp only [seqS]
    rw [e1]
    simp only []
    rw [a2]
    simp only []
    rw [a3]
    simp [retS, mv, bindS, outsOf, dr_solid, solid]

/-! ### pick -/
theorem pick_ok {l c : List Int} {r t : Int} {u v : Bool} {n : Nat} {xs : List D} (h : DrS n l r c t) (hn : n < 2 ^ 59) (h0 : xs ≠ []) (h1 : xs.length < 1000000) (hs : ∀ x ∈ xs, solid x = true) :
    ∃ (x : D) (l2 : List Int) (r2 : Int) (u2 : Bool) (t2 : Int), mPick [dr l r u c t, .lst v xs] = .ok x [some (dr l2 r2 u2 c t2), if solid (.lst v xs) then none else some (.lst v xs)] ∧ x ∈ xs ∧ DrS (n + 1) l2 r2 c t2 := by
  have hp : 0 < xs.length := List.length_pos_iff.mpr h0
  obtain ⟨j, l2, r2, u2, t2, e, hj, ok⟩ := take_ok (u := u) (k := xs.length) h hn ⟨by omega, by omega⟩
  obtain ⟨k, rfl⟩ := Int.eq_ofNat_of_zero_le hj.1
  have hk : k < xs.length := by omega
  refine ⟨xs[k], l2, r2, u2, t2, ?_, List.getElem_mem hk, ok⟩
  have sx : solid xs[k] = true := hs _ (List.getElem_mem hk)
  have hat : atI xs (k : Int) = some xs[k] := by
    unfold atI ixN
    simp [hk]
  have c1 : callD mTake [.nm 0, .ex (qE (qOp lenD (qCons (qN 1) qNil)))] [some (dr l r u c t), some (.lst v xs)] = .ok (.int k) [some (dr l2 r2 u2 c t2), some (.lst v xs)] := by
    have q : qE (qOp lenD (qCons (qN 1) qNil)) [some (dr l r u c t), some (.lst v xs)] = .ok (.int xs.length) [some (dr l r u c t), some (.lst v xs)] := rfl
    unfold callD
    simp only [evalT, List.getElem?_cons_zero, Res.bind_ok, q, takeO, dr_solid, Bool.false_eq_true, if_false, List.set_cons_zero]
    rw [e]
    simp [putO, dr_solid]
  show (match bPick [some (dr l r u c t), some (.lst v xs)] with
    | .nx ρ => FR.ok .non (outsOf [0, 1] 0 [dr l r u c t, .lst v xs] ρ)
    | .rt d ρ => .ok d (outsOf [0, 1] 0 [dr l r u c t, .lst v xs] ρ)
    | .err e ρ => .err e (outsOf [0, 1] 0 [dr l r u c t, .lst v xs] ρ)
    | _ => .stuck) = _
  have e2 : bPick [some (dr l r u c t), some (.lst v xs)] = .rt xs[k] [some (dr l2 r2 u2 c t2), some (.lst v xs)] := by
    unfold bPick retS pureOp evalO
    simp only [evalT, List.getElem?_cons_succ, List.getElem?_cons_zero, c1, Res.bind_ok, fillO, lift2, ixL, hat, sx, if_true, bindS]
  rw [e2]
  simp [outsOf, dr_solid]
end DL

set_option Elab.async false
set_option linter.all false
set_option maxRecDepth 100000
set_option maxHeartbeats 4000000
namespace K1
open PySem PySem.Spec PyProof.Rows L2 DL
def top (i : Nat) : Stmt := PySem.Challenge.pw_listrings_k01_errors_made.main.body.getD i (.Pass ⟨0, 0, 0, 0⟩)
def bt_BadBook : List (String × Bool) := [("NoneType", false), ("bool", false), ("int", false), ("str", false), ("tuple", false), ("list", false), ("dict", false)]
def ct_BadBook : List (Str × Bool) := [("ListError", false), ("BadBook", true), ("NoList", false), ("BadEntry", false), ("Same", false), ("TooMany", false), ("BadLot", false), ("Unlike", false), ("BadKind", false), ("BadSet", false), ("NoAnswer", false), ("NotSingle", false), ("BadRing", false), ("BadNumber", false), ("NotSettled", false), ("OtherFilled", false), ("BadPlan", false), ("BadSeen", false), ("BadView", false), ("BadPerson", false), ("NoPerson", false), ("NoEntry", false), ("NothingDone", false), ("BadJournal", false), ("BadText", false)]
def it_BadBook : List (Str × Bool) := []
def bt_BadEntry : List (String × Bool) := [("NoneType", false), ("bool", false), ("int", false), ("str", false), ("tuple", false), ("list", false), ("dict", false)]
def ct_BadEntry : List (Str × Bool) := [("ListError", false), ("BadBook", false), ("NoList", false), ("BadEntry", true), ("Same", false), ("TooMany", false), ("BadLot", false), ("Unlike", false), ("BadKind", false), ("BadSet", false), ("NoAnswer", false), ("NotSingle", false), ("BadRing", false), ("BadNumber", false), ("NotSettled", false), ("OtherFilled", false), ("BadPlan", false), ("BadSeen", false), ("BadView", false), ("BadPerson", false), ("NoPerson", false), ("NoEntry", false), ("NothingDone", false), ("BadJournal", false), ("BadText", false)]
def it_BadEntry : List (Str × Bool) := []
def bt_BadJournal : List (String × Bool) := [("NoneType", false), ("bool", false), ("int", false), ("str", false), ("tuple", false), ("list", false), ("dict", false)]
def ct_BadJournal : List (Str × Bool) := [("ListError", false), ("BadBook", false), ("NoList", false), ("BadEntry", false), ("Same", false), ("TooMany", false), ("BadLot", false), ("Unlike", false), ("BadKind", false), ("BadSet", false), ("NoAnswer", false), ("NotSingle", false), ("BadRing", false), ("BadNumber", false), ("NotSettled", false), ("OtherFilled", false), ("BadPlan", false), ("BadSeen", false), ("BadView", false), ("BadPerson", false), ("NoPerson", false), ("NoEntry", false), ("NothingDone", false), ("BadJournal", true), ("BadText", false)]
def it_BadJournal : List (Str × Bool) := []
def bt_BadKind : List (String × Bool) := [("NoneType", false), ("bool", false), ("int", false), ("str", false), ("tuple", false), ("list", false), ("dict", false)]
def ct_BadKind : List (Str × Bool) := [("ListError", false), ("BadBook", false), ("NoList", false), ("BadEntry", false), ("Same", false), ("TooMany", false), ("BadLot", false), ("Unlike", false), ("BadKind", true), ("BadSet", false), ("NoAnswer", false), ("NotSingle", false), ("BadRing", false), ("BadNumber", false), ("NotSettled", false), ("OtherFilled", false), ("BadPlan", false), ("BadSeen", false), ("BadView", false), ("BadPerson", false), ("NoPerson", false), ("NoEntry", false), ("NothingDone", false), ("BadJournal", false), ("BadText", false)]
def it_BadKind : List (Str × Bool) := []
def bt_BadLot : List (String × Bool) := [("NoneType", false), ("bool", false), ("int", false), ("str", false), ("tuple", false), ("list", false), ("dict", false)]
def ct_BadLot : List (Str × Bool) := [("ListError", false), ("BadBook", false), ("NoList", false), ("BadEntry", false), ("Same", false), ("TooMany", false), ("BadLot", true), ("Unlike", false), ("BadKind", false), ("BadSet", false), ("NoAnswer", false), ("NotSingle", false), ("BadRing", false), ("BadNumber", false), ("NotSettled", false), ("OtherFilled", false), ("BadPlan", false), ("BadSeen", false), ("BadView", false), ("BadPerson", false), ("NoPerson", false), ("NoEntry", false), ("NothingDone", false), ("BadJournal", false), ("BadText", false)]
def it_BadLot : List (Str × Bool) := []
def bt_BadNumber : List (String × Bool) := [("NoneType", false), ("bool", false), ("int", false), ("str", false), ("tuple", false), ("list", false), ("dict", false)]
def ct_BadNumber : List (Str × Bool) := [("ListError", false), ("BadBook", false), ("NoList", false), ("BadEntry", false), ("Same", false), ("TooMany", false), ("BadLot", false), ("Unlike", false), ("BadKind", false), ("BadSet", false), ("NoAnswer", false), ("NotSingle", false), ("BadRing", false), ("BadNumber", true), ("NotSettled", false), ("OtherFilled", false), ("BadPlan", false), ("BadSeen", false), ("BadView", false), ("BadPerson", false), ("NoPerson", false), ("NoEntry", false), ("NothingDone", false), ("BadJournal", false), ("BadText", false)]
def it_BadNumber : List (Str × Bool) := []
def bt_BadPerson : List (String × Bool) := [("NoneType", false), ("bool", false), ("int", false), ("str", false), ("tuple", false), ("list", false), ("dict", false)]
def ct_BadPerson : List (Str × Bool) := [("ListError", false), ("BadBook", false), ("NoList", false), ("BadEntry", false), ("Same", false), ("TooMany", false), ("BadLot", false), ("Unlike", false), ("BadKind", false), ("BadSet", false), ("NoAnswer", false), ("NotSingle", false), ("BadRing", false), ("BadNumber", false), ("NotSettled", false), ("OtherFilled", false), ("BadPlan", false), ("BadSeen", false), ("BadView", false), ("BadPerson", true), ("NoPerson", false), ("NoEntry", false), ("NothingDone", false), ("BadJournal", false), ("BadText", false)]
def it_BadPerson : List (Str × Bool) := []
def bt_BadPlan : List (String × Bool) := [("NoneType", false), ("bool", false), ("int", false), ("str", false), ("tuple", false), ("list", false), ("dict", false)]
def ct_BadPlan : List (Str × Bool) := [("ListError", false), ("BadBook", false), ("NoList", false), ("BadEntry", false), ("Same", false), ("TooMany", false), ("BadLot", false), ("Unlike", false), ("BadKind", false), ("BadSet", false), ("NoAnswer", false), ("NotSingle", false), ("BadRing", false), ("BadNumber", false), ("NotSettled", false), ("OtherFilled", false), ("BadPlan", true), ("BadSeen", false), ("BadView", false), ("BadPerson", false), ("NoPerson", false), ("NoEntry", false), ("NothingDone", false), ("BadJournal", false), ("BadText", false)]
def it_BadPlan : List (Str × Bool) := []
def bt_BadRing : List (String × Bool) := [("NoneType", false), ("bool", false), ("int", false), ("str", false), ("tuple", false), ("list", false), ("dict", false)]
def ct_BadRing : List (Str × Bool) := [("ListError", false), ("BadBook", false), ("NoList", false), ("BadEntry", false), ("Same", false), ("TooMany", false), ("BadLot", false), ("Unlike", false), ("BadKind", false), ("BadSet", false), ("NoAnswer", false), ("NotSingle", false), ("BadRing", true), ("BadNumber", false), ("NotSettled", false), ("OtherFilled", false), ("BadPlan", false), ("BadSeen", false), ("BadView", false), ("BadPerson", false), ("NoPerson", false), ("NoEntry", false), ("NothingDone", false), ("BadJournal", false), ("BadText", false)]
def it_BadRing : List (Str × Bool) := []
def bt_BadSeen : List (String × Bool) := [("NoneType", false), ("bool", false), ("int", false), ("str", false), ("tuple", false), ("list", false), ("dict", false)]
def ct_BadSeen : List (Str × Bool) := [("ListError", false), ("BadBook", false), ("NoList", false), ("BadEntry", false), ("Same", false), ("TooMany", false), ("BadLot", false), ("Unlike", false), ("BadKind", false), ("BadSet", false), ("NoAnswer", false), ("NotSingle", false), ("BadRing", false), ("BadNumber", false), ("NotSettled", false), ("OtherFilled", false), ("BadPlan", false), ("BadSeen", true), ("BadView", false), ("BadPerson", false), ("NoPerson", false), ("NoEntry", false), ("NothingDone", false), ("BadJournal", false), ("BadText", false)]
def it_BadSeen : List (Str × Bool) := []
def bt_BadSet : List (String × Bool) := [("NoneType", false), ("bool", false), ("int", false), ("str", false), ("tuple", false), ("list", false), ("dict", false)]
def ct_BadSet : List (Str × Bool) := [("ListError", false), ("BadBook", false), ("NoList", false), ("BadEntry", false), ("Same", false), ("TooMany", false), ("BadLot", false), ("Unlike", false), ("BadKind", false), ("BadSet", true), ("NoAnswer", false), ("NotSingle", false), ("BadRing", false), ("BadNumber", false), ("NotSettled", false), ("OtherFilled", false), ("BadPlan", false), ("BadSeen", false), ("BadView", false), ("BadPerson", false), ("NoPerson", false), ("NoEntry", false), ("NothingDone", false), ("BadJournal", false), ("BadText", false)]
def it_BadSet : List (Str × Bool) := []
def bt_BadText : List (String × Bool) := [("NoneType", false), ("bool", false), ("int", false), ("str", false), ("tuple", false), ("list", false), ("dict", false)]
def ct_BadText : List (Str × Bool) := [("ListError", false), ("BadBook", false), ("NoList", false), ("BadEntry", false), ("Same", false), ("TooMany", false), ("BadLot", false), ("Unlike", false), ("BadKind", false), ("BadSet", false), ("NoAnswer", false), ("NotSingle", false), ("BadRing", false), ("BadNumber", false), ("NotSettled", false), ("OtherFilled", false), ("BadPlan", false), ("BadSeen", false), ("BadView", false), ("BadPerson", false), ("NoPerson", false), ("NoEntry", false), ("NothingDone", false), ("BadJournal", false), ("BadText", true)]
def it_BadText : List (Str × Bool) := []
def bt_BadView : List (String × Bool) := [("NoneType", false), ("bool", false), ("int", false), ("str", false), ("tuple", false), ("list", false), ("dict", false)]
def ct_BadView : List (Str × Bool) := [("ListError", false), ("BadBook", false), ("NoList", false), ("BadEntry", false), ("Same", false), ("TooMany", false), ("BadLot", false), ("Unlike", false), ("BadKind", false), ("BadSet", false), ("NoAnswer", false), ("NotSingle", false), ("BadRing", false), ("BadNumber", false), ("NotSettled", false), ("OtherFilled", false), ("BadPlan", false), ("BadSeen", false), ("BadView", true), ("BadPerson", false), ("NoPerson", false), ("NoEntry", false), ("NothingDone", false), ("BadJournal", false), ("BadText", false)]
def it_BadView : List (Str × Bool) := []
def bt_ListError : List (String × Bool) := [("NoneType", false), ("bool", false), ("int", false), ("str", false), ("tuple", false), ("list", false), ("dict", false)]
def ct_ListError : List (Str × Bool) := [("ListError", true), ("BadBook", true), ("NoList", true), ("BadEntry", true), ("Same", true), ("TooMany", true), ("BadLot", true), ("Unlike", true), ("BadKind", true), ("BadSet", true), ("NoAnswer", true), ("NotSingle", true), ("BadRing", true), ("BadNumber", true), ("NotSettled", true), ("OtherFilled", true), ("BadPlan", true), ("BadSeen", true), ("BadView", true), ("BadPerson", true), ("NoPerson", true), ("NoEntry", true), ("NothingDone", true), ("BadJournal", true), ("BadText", true)]
def it_ListError : List (Str × Bool) := []
def bt_NoAnswer : List (String × Bool) := [("NoneType", false), ("bool", false), ("int", false), ("str", false), ("tuple", false), ("list", false), ("dict", false)]
def ct_NoAnswer : List (Str × Bool) := [("ListError", false), ("BadBook", false), ("NoList", false), ("BadEntry", false), ("Same", false), ("TooMany", false), ("BadLot", false), ("Unlike", false), ("BadKind", false), ("BadSet", false), ("NoAnswer", true), ("NotSingle", false), ("BadRing", false), ("BadNumber", false), ("NotSettled", false), ("OtherFilled", false), ("BadPlan", false), ("BadSeen", false), ("BadView", false), ("BadPerson", false), ("NoPerson", false), ("NoEntry", false), ("NothingDone", false), ("BadJournal", false), ("BadText", false)]
def it_NoAnswer : List (Str × Bool) := []
def bt_NoEntry : List (String × Bool) := [("NoneType", false), ("bool", false), ("int", false), ("str", false), ("tuple", false), ("list", false), ("dict", false)]
def ct_NoEntry : List (Str × Bool) := [("ListError", false), ("BadBook", false), ("NoList", false), ("BadEntry", false), ("Same", false), ("TooMany", false), ("BadLot", false), ("Unlike", false), ("BadKind", false), ("BadSet", false), ("NoAnswer", false), ("NotSingle", false), ("BadRing", false), ("BadNumber", false), ("NotSettled", false), ("OtherFilled", false), ("BadPlan", false), ("BadSeen", false), ("BadView", false), ("BadPerson", false), ("NoPerson", false), ("NoEntry", true), ("NothingDone", false), ("BadJournal", false), ("BadText", false)]
def it_NoEntry : List (Str × Bool) := []
def bt_NoList : List (String × Bool) := [("NoneType", false), ("bool", false), ("int", false), ("str", false), ("tuple", false), ("list", false), ("dict", false)]
def ct_NoList : List (Str × Bool) := [("ListError", false), ("BadBook", false), ("NoList", true), ("BadEntry", false), ("Same", false), ("TooMany", false), ("BadLot", false), ("Unlike", false), ("BadKind", false), ("BadSet", false), ("NoAnswer", false), ("NotSingle", false), ("BadRing", false), ("BadNumber", false), ("NotSettled", false), ("OtherFilled", false), ("BadPlan", false), ("BadSeen", false), ("BadView", false), ("BadPerson", false), ("NoPerson", false), ("NoEntry", false), ("NothingDone", false), ("BadJournal", false), ("BadText", false)]
def it_NoList : List (Str × Bool) := []
def bt_NoPerson : List (String × Bool) := [("NoneType", false), ("bool", false), ("int", false), ("str", false), ("tuple", false), ("list", false), ("dict", false)]
def ct_NoPerson : List (Str × Bool) := [("ListError", false), ("BadBook", false), ("NoList", false), ("BadEntry", false), ("Same", false), ("TooMany", false), ("BadLot", false), ("Unlike", false), ("BadKind", false), ("BadSet", false), ("NoAnswer", false), ("NotSingle", false), ("BadRing", false), ("BadNumber", false), ("NotSettled", false), ("OtherFilled", false), ("BadPlan", false), ("BadSeen", false), ("BadView", false), ("BadPerson", false), ("NoPerson", true), ("NoEntry", false), ("NothingDone", false), ("BadJournal", false), ("BadText", false)]
def it_NoPerson : List (Str × Bool) := []
def bt_NotSettled : List (String × Bool) := [("NoneType", false), ("bool", false), ("int", false), ("str", false), ("tuple", false), ("list", false), ("dict", false)]
def ct_NotSettled : List (Str × Bool) := [("ListError", false), ("BadBook", false), ("NoList", false), ("BadEntry", false), ("Same", false), ("TooMany", false), ("BadLot", false), ("Unlike", false), ("BadKind", false), ("BadSet", false), ("NoAnswer", false), ("NotSingle", false), ("BadRing", false), ("BadNumber", false), ("NotSettled", true), ("OtherFilled", false), ("BadPlan", false), ("BadSeen", false), ("BadView", false), ("BadPerson", false), ("NoPerson", false), ("NoEntry", false), ("NothingDone", false), ("BadJournal", false), ("BadText", false)]
def it_NotSettled : List (Str × Bool) := []
def bt_NotSingle : List (String × Bool) := [("NoneType", false), ("bool", false), ("int", false), ("str", false), ("tuple", false), ("list", false), ("dict", false)]
def ct_NotSingle : List (Str × Bool) := [("ListError", false), ("BadBook", false), ("NoList", false), ("BadEntry", false), ("Same", false), ("TooMany", false), ("BadLot", false), ("Unlike", false), ("BadKind", false), ("BadSet", false), ("NoAnswer", false), ("NotSingle", true), ("BadRing", false), ("BadNumber", false), ("NotSettled", false), ("OtherFilled", false), ("BadPlan", false), ("BadSeen", false), ("BadView", false), ("BadPerson", false), ("NoPerson", false), ("NoEntry", false), ("NothingDone", false), ("BadJournal", false), ("BadText", false)]
def it_NotSingle : List (Str × Bool) := []
def bt_NothingDone : List (String × Bool) := [("NoneType", false), ("bool", false), ("int", false), ("str", false), ("tuple", false), ("list", false), ("dict", false)]
def ct_NothingDone : List (Str × Bool) := [("ListError", false), ("BadBook", false), ("NoList", false), ("BadEntry", false), ("Same", false), ("TooMany", false), ("BadLot", false), ("Unlike", false), ("BadKind", false), ("BadSet", false), ("NoAnswer", false), ("NotSingle", false), ("BadRing", false), ("BadNumber", false), ("NotSettled", false), ("OtherFilled", false), ("BadPlan", false), ("BadSeen", false), ("BadView", false), ("BadPerson", false), ("NoPerson", false), ("NoEntry", false), ("NothingDone", true), ("BadJournal", false), ("BadText", false)]
def it_NothingDone : List (Str × Bool) := []
def bt_OtherFilled : List (String × Bool) := [("NoneType", false), ("bool", false), ("int", false), ("str", false), ("tuple", false), ("list", false), ("dict", false)]
def ct_OtherFilled : List (Str × Bool) := [("ListError", false), ("BadBook", false), ("NoList", false), ("BadEntry", false), ("Same", false), ("TooMany", false), ("BadLot", false), ("Unlike", false), ("BadKind", false), ("BadSet", false), ("NoAnswer", false), ("NotSingle", false), ("BadRing", false), ("BadNumber", false), ("NotSettled", false), ("OtherFilled", true), ("BadPlan", false), ("BadSeen", false), ("BadView", false), ("BadPerson", false), ("NoPerson", false), ("NoEntry", false), ("NothingDone", false), ("BadJournal", false), ("BadText", false)]
def it_OtherFilled : List (Str × Bool) := []
def bt_Same : List (String × Bool) := [("NoneType", false), ("bool", false), ("int", false), ("str", false), ("tuple", false), ("list", false), ("dict", false)]
def ct_Same : List (Str × Bool) := [("ListError", false), ("BadBook", false), ("NoList", false), ("BadEntry", false), ("Same", true), ("TooMany", false), ("BadLot", false), ("Unlike", false), ("BadKind", false), ("BadSet", false), ("NoAnswer", false), ("NotSingle", false), ("BadRing", false), ("BadNumber", false), ("NotSettled", false), ("OtherFilled", false), ("BadPlan", false), ("BadSeen", false), ("BadView", false), ("BadPerson", false), ("NoPerson", false), ("NoEntry", false), ("NothingDone", false), ("BadJournal", false), ("BadText", false)]
def it_Same : List (Str × Bool) := []
def bt_TooMany : List (String × Bool) := [("NoneType", false), ("bool", false), ("int", false), ("str", false), ("tuple", false), ("list", false), ("dict", false)]
def ct_TooMany : List (Str × Bool) := [("ListError", false), ("BadBook", false), ("NoList", false), ("BadEntry", false), ("Same", false), ("TooMany", true), ("BadLot", false), ("Unlike", false), ("BadKind", false), ("BadSet", false), ("NoAnswer", false), ("NotSingle", false), ("BadRing", false), ("BadNumber", false), ("NotSettled", false), ("OtherFilled", false), ("BadPlan", false), ("BadSeen", false), ("BadView", false), ("BadPerson", false), ("NoPerson", false), ("NoEntry", false), ("NothingDone", false), ("BadJournal", false), ("BadText", false)]
def it_TooMany : List (Str × Bool) := []
def bt_Unlike : List (String × Bool) := [("NoneType", false), ("bool", false), ("int", false), ("str", false), ("tuple", false), ("list", false), ("dict", false)]
def ct_Unlike : List (Str × Bool) := [("ListError", false), ("BadBook", false), ("NoList", false), ("BadEntry", false), ("Same", false), ("TooMany", false), ("BadLot", false), ("Unlike", true), ("BadKind", false), ("BadSet", false), ("NoAnswer", false), ("NotSingle", false), ("BadRing", false), ("BadNumber", false), ("NotSettled", false), ("OtherFilled", false), ("BadPlan", false), ("BadSeen", false), ("BadView", false), ("BadPerson", false), ("NoPerson", false), ("NoEntry", false), ("NothingDone", false), ("BadJournal", false), ("BadText", false)]
def it_Unlike : List (Str × Bool) := []
def bt_ValueError : List (String × Bool) := [("NoneType", false), ("bool", false), ("int", false), ("str", false), ("tuple", false), ("list", false), ("dict", false)]
def ct_ValueError : List (Str × Bool) := [("ListError", true), ("BadBook", true), ("NoList", true), ("BadEntry", true), ("Same", true), ("TooMany", true), ("BadLot", true), ("Unlike", true), ("BadKind", true), ("BadSet", true), ("NoAnswer", true), ("NotSingle", true), ("BadRing", true), ("BadNumber", true), ("NotSettled", true), ("OtherFilled", true), ("BadPlan", true), ("BadSeen", true), ("BadView", true), ("BadPerson", true), ("NoPerson", true), ("NoEntry", true), ("NothingDone", true), ("BadJournal", true), ("BadText", true)]
def it_ValueError : List (Str × Bool) := []
def errT : List Str := ["ListError", "BadBook", "NoList", "BadEntry", "Same", "TooMany", "BadLot", "Unlike", "BadKind", "BadSet", "NoAnswer", "NotSingle", "BadRing", "BadNumber", "NotSettled", "OtherFilled", "BadPlan", "BadSeen", "BadView", "BadPerson", "NoPerson", "NoEntry", "NothingDone", "BadJournal", "BadText"]
def errN : List Str := ["answer", "at", "kind", "most", "name", "person"]
/-! ### _law_begun -/
abbrev s_law_begun : Stmt := top 27
def N_law_begun : List Str := ["_law_script", "_law_large", "_law_grain"]
theorem sc_law_begun : FnScope N_law_begun ["_law_script"] (defScope s_law_begun) := ⟨rfl, rfl, rfl, by decide +kernel, rfl, by decide +kernel, by decide +kernel⟩
noncomputable def b_law_begun : DL.Env → SR :=
  (seqS (asgS 1 (compBE 0 (tgN 2) (tstQ (qOp (lift2 geD) (q2 (qOp (lift1 absK) (qCons (qN 2) qNil)) (qOp (lift2 powI) (q2 (qK (.int 10)) (qK (.int 18))))))) (qE (qOp (lift2 subI) (q2 (qOp (lift1 absK) (qCons (qN 2) qNil)) (qOp (lift2 powI) (q2 (qK (.int 10)) (qK (.int 18))))))) [2]))
  (retS (dispE [(Sum.inr "large", (mv 1)), (Sum.inr "rest", (qE (qK (.int 0)))), (Sum.inr "cells", (compBE 0 (tgN 2) yesB (qE (qOp (lift1 absK) (qCons (qN 2) qNil))) [2])), (Sum.inr "turn", (qE (qK (.int 0))))])))
noncomputable def m_law_begun : List D → FR := runD N_law_begun.length [0] b_law_begun
theorem d_law_begun {P : Program} {w : World} {K : PySem.W.Frag} {mg : Str → Option Value} {base : Heap} {qual : Str} {f : Addr} (g_abs : mg "abs" = none) (cdv : Value) (A : Around) (outer : List PySem.Env) (s0 : Shared) (H : Hp) (E : XK)
    (hr : Room 0 (inCx P w K mg base N_law_begun qual (defScope s_law_begun) f cdv A outer s0 H E).A) (hgd : (inCx P w K mg base N_law_begun qual (defScope s_law_begun) f cdv A outer s0 H E).A.guards = some []) (tk : Takes (inCx P w K mg base N_law_begun qual (defScope s_law_begun) f cdv A outer s0 H E) (fun c d _ H => E c d H)) :
    DSs (inCx P w K mg base N_law_begun qual (defScope s_law_begun) f cdv A outer s0 H E) (fun c d _ H => E c d H) [0] (defBody s_law_begun) b_law_begun := by
  have nd := sc_law_begun.nd
  have hu1 : (inCx P w K mg base N_law_begun qual (defScope s_law_begun) f cdv A outer s0 H E).A.units + 1 < cLine := by have := hr.un; omega
  have hu64 : (inCx P w K mg base N_law_begun qual (defScope s_law_begun) f cdv A outer s0 H E).A.units + 64 < cLine := by have := hr.un; omega
  have hu160 : (inCx P w K mg base N_law_begun qual (defScope s_law_begun) f cdv A outer s0 H E).A.units + 160 < cLine := by have := hr.un; omega
  have hu65 : (inCx P w K mg base N_law_begun qual (defScope s_law_begun) f cdv A outer s0 H E).A.units + 65 < cLine := by have := hr.un; omega
  have pass : PassesOwn (model P w) (inCx P w K mg base N_law_begun qual (defScope s_law_begun) f cdv A outer s0 H E).A (inCx P w K mg base N_law_begun qual (defScope s_law_begun) f cdv A outer s0 H E).env (inCx P w K mg base N_law_begun qual (defScope s_law_begun) f cdv A outer s0 H E).xe := PassesOwn.leaving
  exact (dss_cons (ds_setLcB (j := 1) (own := [("_law_grain", 2)]) rfl nd rfl rfl (by decide) (by rfl) (pv 0) (blkOk_by (by rfl)) (fun _ _ _ _ _ => (pg_name (i := 2) nd rfl (by first | exact Or.inl rfl | exact Or.inr rfl))) (fun kp hkp => tg_name (hkp 2 (by decide))) (fun _ _ _ _ _ => (dts_one (dt_cmpQ od_ge (QF.toR (qf_callB cd_abs (by rfl) g_abs (by decide +kernel) (ql_cons (qr_nm (pv 2)) ql_nil))) (QF.toR (qf_bin od_pow (QF.toR qf_int) (QF.toR qf_int))) (nomark _)))) (fun _ _ _ _ _ => (QF.de (qf_bin od_subI (QF.toR (qf_callB cd_abs (by rfl) g_abs (by decide +kernel) (ql_cons (qr_nm (pv 2)) ql_nil))) (QF.toR (qf_bin od_pow (QF.toR qf_int) (QF.toR qf_int)))))))
    (dss_one (ds_ret (de_disp (dp_cons (k := Sum.inr "large") pe_str (de_mv (pv 1)) (dp_cons (k := Sum.inr "rest") pe_str (QF.de qf_int) (dp_cons (k := Sum.inr "cells") pe_str (de_lcB (own := [("_law_grain", 2)]) rfl nd (pv 0) (blkOk_by (by rfl)) (fun _ _ _ _ _ => (pg_name (i := 2) nd rfl (by first | exact Or.inl rfl | exact Or.inr rfl))) (fun kp hkp => tg_name (hkp 2 (by decide))) (fun _ _ _ _ _ => dts_nil) (fun _ _ _ _ _ => (QF.de (qf_callB cd_abs (by rfl) g_abs (by decide +kernel) (ql_cons (qr_nm (pv 2)) ql_nil))))) (dp_cons (k := Sum.inr "turn") pe_str (QF.de qf_int) dp_nil)))) (by decide +kernel) (by decide) rfl))))
theorem k_law_begun {P : Program} {w : World} {K : PySem.W.Frag} {mg : Str → Option Value} {base : Heap} {f : Addr} {fd : FuncData} (g_abs : mg "abs" = none) (F : Fun K "_law_begun" "_law_begun" s_law_begun f fd) (hm : mg "_law_begun" = some (.ref f)) (hb : Binds K fd ["_law_script"] []) :
    Cal P w K mg base 1 "_law_begun" 1 m_law_begun :=
  ⟨f, fd, ["_law_script"], fnG_D F sc_law_begun (by decide) (fun cdv A outer s0 H E hr hgd tk => d_law_begun g_abs cdv A outer s0 H E hr hgd tk), hm, F.kp, hb⟩
/-! ### _law_mixed -/
abbrev s_law_mixed : Stmt := top 28
def N_law_mixed : List Str := ["_law_draw", "_law_turn", "_law_found", "_law_prime", "_law_blend", "_law_grain"]
theorem sc_law_mixed : FnScope N_law_mixed ["_law_draw"] (defScope s_law_mixed) := ⟨rfl, rfl, rfl, by decide +kernel, rfl, by decide +kernel, by decide +kernel⟩
noncomputable def b_law_mixed : DL.Env → SR :=
  (seqS (putS 0 pNil (qK (.str "turn")) (qE (qOp (lift2 addD) (q2 (qSub (qN 0) (qK (.str "turn"))) (qK (.int 1))))))
  (seqS (parS 1 2 (itOne (qE (qOp (lift1 intKd) (qCons (qSub (qN 0) (qK (.str "turn"))) qNil))) (itOne (qE (qK (.int 0))) itNil)))
  (seqS (forS (srcV (qE (qOp dLst (qCons (qK (.int 2147483629)) (qCons (qK (.int 2147483587)) (qCons (qK (.int 2147483579)) qNil)))))) (tgN 3) (seqS (asgS 4 (qE (qOp (lift2 modI) (q2 (qOp (lift2 addD) (q2 (qOp (lift2 mulD) (q2 (qN 1) (qK (.int 69621)))) (qOp (lift2 fdivI) (q2 (qN 3) (qK (.int 7)))))) (qN 3)))))
  (seqS (forS (srcV (cpA (qSub (qN 0) (qK (.str "cells"))) 0 (pKey pNil (qK (.str "cells"))))) (tgN 5) (asgS 4 (qE (qOp (lift2 modI) (q2 (qOp (lift2 addD) (q2 (qOp (lift2 mulD) (q2 (qN 4) (qK (.int 48271)))) (qOp (lift1 intKd) (qCons (qN 5) qNil)))) (qN 3))))))
  (asgS 2 (qE (qOp (lift2 addD) (q2 (qOp (lift2 mulD) (q2 (qN 2) (qK (.int 2147483647)))) (qOp (lift2 modI) (q2 (qOp (lift2 powI) (q2 (qN 4) (qK (.int 5)))) (qN 3))))))))))
  (retS (mv 2)))))
noncomputable def m_law_mixed : List D → FR := runD N_law_mixed.length [0] b_law_mixed
theorem d_law_mixed {P : Program} {w : World} {K : PySem.W.Frag} {mg : Str → Option Value} {base : Heap} {qual : Str} {f : Addr} (g_int : mg "int" = none) (cdv : Value) (A : Around) (outer : List PySem.Env) (s0 : Shared) (H : Hp) (E : XK)
    (hr : Room 0 (inCx P w K mg base N_law_mixed qual (defScope s_law_mixed) f cdv A outer s0 H E).A) (hgd : (inCx P w K mg base N_law_mixed qual (defScope s_law_mixed) f cdv A outer s0 H E).A.guards = some []) (tk : Takes (inCx P w K mg base N_law_mixed qual (defScope s_law_mixed) f cdv A outer s0 H E) (fun c d _ H => E c d H)) :
    DSs (inCx P w K mg base N_law_mixed qual (defScope s_law_mixed) f cdv A outer s0 H E) (fun c d _ H => E c d H) [0] (defBody s_law_mixed) b_law_mixed := by
  have nd := sc_law_mixed.nd
  have hu1 : (inCx P w K mg base N_law_mixed qual (defScope s_law_mixed) f cdv A outer s0 H E).A.units + 1 < cLine := by have := hr.un; omega
  have hu64 : (inCx P w K mg base N_law_mixed qual (defScope s_law_mixed) f cdv A outer s0 H E).A.units + 64 < cLine := by have := hr.un; omega
  have hu160 : (inCx P w K mg base N_law_mixed qual (defScope s_law_mixed) f cdv A outer s0 H E).A.units + 160 < cLine := by have := hr.un; omega
  have hu65 : (inCx P w K mg base N_law_mixed qual (defScope s_law_mixed) f cdv A outer s0 H E).A.units + 65 < cLine := by have := hr.un; omega
  have pass : PassesOwn (model P w) (inCx P w K mg base N_law_mixed qual (defScope s_law_mixed) f cdv A outer s0 H E).A (inCx P w K mg base N_law_mixed qual (defScope s_law_mixed) f cdv A outer s0 H E).env (inCx P w K mg base N_law_mixed qual (defScope s_law_mixed) f cdv A outer s0 H E).xe := PassesOwn.leaving
  exact (dss_cons (ds_put hu1 (pl_nm (pv 0)) (QF.toR qf_str) (QF.de (qf_bin od_add (qr_sub hu1 (qr_nm (pv 0)) (QF.toR qf_str) (fun _ _ => rfl)) (QF.toR qf_int))))
    (dss_cons (ds_par (i := 1) (j := 2) rfl nd rfl rfl (by decide) rfl rfl (da_one (QF.de (qf_callT cd_int (by rfl) g_int (by decide +kernel) (ql_cons (qr_sub hu1 (qr_nm (pv 0)) (QF.toR qf_str) (fun _ _ => rfl)) ql_nil))) (da_one (QF.de qf_int) da_nil)) (by decide) (by decide) (by rfl))
    (dss_cons (ds_for pass rfl (di_val (QF.de (qf_lst (ql_cons (QF.toR qf_int) (ql_cons (QF.toR qf_int) (ql_cons (QF.toR qf_int) ql_nil)))))) (pg_name (i := 3) nd rfl (by first | exact Or.inl rfl | exact Or.inr rfl)) (tg_name (by decide)) (dss_cons (ds_set (i := 4) nd rfl (by first | exact Or.inl rfl | exact Or.inr rfl) (QF.de (qf_bin od_mod (QF.toR (qf_bin od_add (QF.toR (qf_bin od_mul (qr_nm (pv 1)) (QF.toR qf_int))) (QF.toR (qf_bin od_fdiv (qr_nm (pv 3)) (QF.toR qf_int))))) (qr_nm (pv 3)))) (by decide))
    (dss_cons (ds_for pass rfl (di_val (de_cpA (qr_sub hu1 (qr_nm (pv 0)) (QF.toR qf_str) (fun _ _ => rfl)) (pl_sub hu1 (pl_nm (pv 0)) (QF.toR qf_str) (fun _ _ => rfl)))) (pg_name (i := 5) nd rfl (by first | exact Or.inl rfl | exact Or.inr rfl)) (tg_name (by decide)) (dss_one (ds_set (i := 4) nd rfl (by first | exact Or.inl rfl | exact Or.inr rfl) (QF.de (qf_bin od_mod (QF.toR (qf_bin od_add (QF.toR (qf_bin od_mul (qr_nm (pv 4)) (QF.toR qf_int))) (QF.toR (qf_callT cd_int (by rfl) g_int (by decide +kernel) (ql_cons (qr_nm (pv 5)) ql_nil))))) (qr_nm (pv 3)))) (by decide))))
    (dss_one (ds_set (i := 2) nd rfl (by first | exact Or.inl rfl | exact Or.inr rfl) (QF.de (qf_bin od_add (QF.toR (qf_bin od_mul (qr_nm (pv 2)) (QF.toR qf_int))) (QF.toR (qf_bin od_mod (QF.toR (qf_bin od_pow (qr_nm (pv 4)) (QF.toR qf_int))) (qr_nm (pv 3)))))) (by decide))))))
    (dss_one (ds_ret (de_mv (pv 2)))))))
theorem k_law_mixed {P : Program} {w : World} {K : PySem.W.Frag} {mg : Str → Option Value} {base : Heap} {f : Addr} {fd : FuncData} (g_int : mg "int" = none) (F : Fun K "_law_mixed" "_law_mixed" s_law_mixed f fd) (hm : mg "_law_mixed" = some (.ref f)) (hb : Binds K fd ["_law_draw"] []) :
    Cal P w K mg base 1 "_law_mixed" 1 m_law_mixed :=
  ⟨f, fd, ["_law_draw"], fnG_D F sc_law_mixed (by decide) (fun cdv A outer s0 H E hr hgd tk => d_law_mixed g_int cdv A outer s0 H E hr hgd tk), hm, F.kp, hb⟩
/-! ### _law_take -/
abbrev s_law_take : Stmt := top 29
def N_law_take : List Str := ["_law_draw", "_law_amount", "_law_found"]
theorem sc_law_take : FnScope N_law_take ["_law_draw", "_law_amount"] (defScope s_law_take) := ⟨rfl, rfl, rfl, by decide +kernel, rfl, by decide +kernel, by decide +kernel⟩
noncomputable def b_law_take : DL.Env → SR :=
  (seqS (ifS (tstQ (qOp (lift2 eqD) (q2 (qSub (qN 0) (qK (.str "rest"))) (qK (.int 0))))) (putS 0 pNil (qK (.str "rest")) (ifE (tstQ (qOp (lift2 neD) (q2 (qSub (qN 0) (qK (.str "large"))) (qOp dLst qNil)))) (mutP "list" mPop 0 (pKey pNil (qK (.str "large"))) (qCons (qK (.int 0)) qNil)) (callD m_law_mixed [.nm 0]))) nxS)
  (seqS (asgS 2 (qE (qOp (lift2 modI) (q2 (qOp (lift1 intKd) (qCons (qSub (qN 0) (qK (.str "rest"))) qNil)) (qN 1)))))
  (seqS (putS 0 pNil (qK (.str "rest")) (qE (qOp (lift2 fdivI) (q2 (qOp (lift1 intKd) (qCons (qSub (qN 0) (qK (.str "rest"))) qNil)) (qN 1)))))
  (retS (mv 2)))))
noncomputable def m_law_take : List D → FR := runD N_law_take.length [0, 1] b_law_take
theorem d_law_take {P : Program} {w : World} {K : PySem.W.Frag} {mg : Str → Option Value} {base : Heap} {qual : Str} {f : Addr} (g_int : mg "int" = none) (c_law_mixed : Cal P w K mg base 1 "_law_mixed" 1 m_law_mixed) (cdv : Value) (A : Around) (outer : List PySem.Env) (s0 : Shared) (H : Hp) (E : XK)
    (hr : Room 1 (inCx P w K mg base N_law_take qual (defScope s_law_take) f cdv A outer s0 H E).A) (hgd : (inCx P w K mg base N_law_take qual (defScope s_law_take) f cdv A outer s0 H E).A.guards = some []) (tk : Takes (inCx P w K mg base N_law_take qual (defScope s_law_take) f cdv A outer s0 H E) (fun c d _ H => E c d H)) :
    DSs (inCx P w K mg base N_law_take qual (defScope s_law_take) f cdv A outer s0 H E) (fun c d _ H => E c d H) [0, 1] (defBody s_law_take) b_law_take := by
  have nd := sc_law_take.nd
  have hu1 : (inCx P w K mg base N_law_take qual (defScope s_law_take) f cdv A outer s0 H E).A.units + 1 < cLine := by have := hr.un; omega
  have hu64 : (inCx P w K mg base N_law_take qual (defScope s_law_take) f cdv A outer s0 H E).A.units + 64 < cLine := by have := hr.un; omega
  have hu160 : (inCx P w K mg base N_law_take qual (defScope s_law_take) f cdv A outer s0 H E).A.units + 160 < cLine := by have := hr.un; omega
  have hu65 : (inCx P w K mg base N_law_take qual (defScope s_law_take) f cdv A outer s0 H E).A.units + 65 < cLine := by have := hr.un; omega
  have pass : PassesOwn (model P w) (inCx P w K mg base N_law_take qual (defScope s_law_take) f cdv A outer s0 H E).A (inCx P w K mg base N_law_take qual (defScope s_law_take) f cdv A outer s0 H E).env (inCx P w K mg base N_law_take qual (defScope s_law_take) f cdv A outer s0 H E).xe := PassesOwn.leaving
  exact (dss_cons (ds_if (dt_cmpQ (od_eq hu64) (qr_sub hu1 (qr_nm (pv 0)) (QF.toR qf_str) (fun _ _ => rfl)) (QF.toR qf_int) (nomark _)) (dss_one (ds_put hu1 (pl_nm (pv 0)) (QF.toR qf_str) (de_ifE (dt_cmpQ (od_ne hu64) (qr_sub hu1 (qr_nm (pv 0)) (QF.toR qf_str) (fun _ _ => rfl)) (QF.toR (qf_lst ql_nil)) (nomark _)) (de_mutP PySem.F.plainAttrs_list PySem.F.slot_list_pop PySem.F.type_list_pop mt_popAny ms_pop (pl_sub hu1 (pl_nm (pv 0)) (QF.toR qf_str) (fun _ _ => rfl)) (ql_cons (QF.toR qf_int) ql_nil)) (de_callG c_law_mixed (hr.mono (by decide)) hgd tk (by rfl) (dos_cons (do_nm (pv 0)) dos_nil))))) dss_nil)
    (dss_cons (ds_set (i := 2) nd rfl (by first | exact Or.inl rfl | exact Or.inr rfl) (QF.de (qf_bin od_mod (QF.toR (qf_callT cd_int (by rfl) g_int (by decide +kernel) (ql_cons (qr_sub hu1 (qr_nm (pv 0)) (QF.toR qf_str) (fun _ _ => rfl)) ql_nil))) (qr_nm (pv 1)))) (by decide))
    (dss_cons (ds_put hu1 (pl_nm (pv 0)) (QF.toR qf_str) (QF.de (qf_bin od_fdiv (QF.toR (qf_callT cd_int (by rfl) g_int (by decide +kernel) (ql_cons (qr_sub hu1 (qr_nm (pv 0)) (QF.toR qf_str) (fun _ _ => rfl)) ql_nil))) (qr_nm (pv 1)))))
    (dss_one (ds_ret (de_mv (pv 2)))))))
theorem k_law_take {P : Program} {w : World} {K : PySem.W.Frag} {mg : Str → Option Value} {base : Heap} {f : Addr} {fd : FuncData} (g_int : mg "int" = none) (c_law_mixed : Cal P w K mg base 1 "_law_mixed" 1 m_law_mixed) (F : Fun K "_law_take" "_law_take" s_law_take f fd) (hm : mg "_law_take" = some (.ref f)) (hb : Binds K fd ["_law_draw", "_law_amount"] []) :
    Cal P w K mg base 2 "_law_take" 2 m_law_take :=
  ⟨f, fd, ["_law_draw", "_law_amount"], fnG_D F sc_law_take (by decide) (fun cdv A outer s0 H E hr hgd tk => d_law_take g_int c_law_mixed cdv A outer s0 H E hr hgd tk), hm, F.kp, hb⟩
/-! ### _law_pick -/
abbrev s_law_pick : Stmt := top 30
def N_law_pick : List Str := ["_law_draw", "_law_some"]
theorem sc_law_pick : FnScope N_law_pick ["_law_draw", "_law_some"] (defScope s_law_pick) := ⟨rfl, rfl, rfl, by decide +kernel, rfl, by decide +kernel, by decide +kernel⟩
noncomputable def b_law_pick : DL.Env → SR :=
  (retS (pureOp (lift2 ixL) [.nm 1, .ex (callD m_law_take [.nm 0, .ex (qE (qOp lenD (qCons (qN 1) qNil)))])]))
noncomputable def m_law_pick : List D → FR := runD N_law_pick.length [0, 1] b_law_pick
theorem d_law_pick {P : Program} {w : World} {K : PySem.W.Frag} {mg : Str → Option Value} {base : Heap} {qual : Str} {f : Addr} (g_len : mg "len" = none) (c_law_take : Cal P w K mg base 2 "_law_take" 2 m_law_take) (cdv : Value) (A : Around) (outer : List PySem.Env) (s0 : Shared) (H : Hp) (E : XK)
    (hr : Room 2 (inCx P w K mg base N_law_pick qual (defScope s_law_pick) f cdv A outer s0 H E).A) (hgd : (inCx P w K mg base N_law_pick qual (defScope s_law_pick) f cdv A outer s0 H E).A.guards = some []) (tk : Takes (inCx P w K mg base N_law_pick qual (defScope s_law_pick) f cdv A outer s0 H E) (fun c d _ H => E c d H)) :
    DSs (inCx P w K mg base N_law_pick qual (defScope s_law_pick) f cdv A outer s0 H E) (fun c d _ H => E c d H) [0, 1] (defBody s_law_pick) b_law_pick := by
  have nd := sc_law_pick.nd
  have hu1 : (inCx P w K mg base N_law_pick qual (defScope s_law_pick) f cdv A outer s0 H E).A.units + 1 < cLine := by have := hr.un; omega
  have hu64 : (inCx P w K mg base N_law_pick qual (defScope s_law_pick) f cdv A outer s0 H E).A.units + 64 < cLine := by have := hr.un; omega
  have hu160 : (inCx P w K mg base N_law_pick qual (defScope s_law_pick) f cdv A outer s0 H E).A.units + 160 < cLine := by have := hr.un; omega
  have hu65 : (inCx P w K mg base N_law_pick qual (defScope s_law_pick) f cdv A outer s0 H E).A.units + 65 < cLine := by have := hr.un; omega
  have pass : PassesOwn (model P w) (inCx P w K mg base N_law_pick qual (defScope s_law_pick) f cdv A outer s0 H E).A (inCx P w K mg base N_law_pick qual (defScope s_law_pick) f cdv A outer s0 H E).env (inCx P w K mg base N_law_pick qual (defScope s_law_pick) f cdv A outer s0 H E).xe := PassesOwn.leaving
  exact (dss_one (ds_ret (de_ixD xd_ixL (do_nm (pv 1)) (do_ex (de_callG c_law_take (hr.mono (by decide)) hgd tk (by rfl) (dos_cons (do_nm (pv 0)) (dos_cons (do_ex (QF.de (qf_callB cd_len (by rfl) g_len (by decide +kernel) (ql_cons (qr_nm (pv 1)) ql_nil)))) dos_nil)))) (fun _ _ => rfl))))
theorem k_law_pick {P : Program} {w : World} {K : PySem.W.Frag} {mg : Str → Option Value} {base : Heap} {f : Addr} {fd : FuncData} (g_len : mg "len" = none) (c_law_take : Cal P w K mg base 2 "_law_take" 2 m_law_take) (F : Fun K "_law_pick" "_law_pick" s_law_pick f fd) (hm : mg "_law_pick" = some (.ref f)) (hb : Binds K fd ["_law_draw", "_law_some"] []) :
    Cal P w K mg base 3 "_law_pick" 2 m_law_pick :=
  ⟨f, fd, ["_law_draw", "_law_some"], fnG_D F sc_law_pick (by decide) (fun cdv A outer s0 H E hr hgd tk => d_law_pick g_len c_law_take cdv A outer s0 H E hr hgd tk), hm, F.kp, hb⟩
/-! ### _law_worth -/
abbrev s_law_worth : Stmt := top 31
def N_law_worth : List Str := ["_law_draw", "_law_some"]
theorem sc_law_worth : FnScope N_law_worth ["_law_draw"] (defScope s_law_worth) := ⟨rfl, rfl, rfl, by decide +kernel, rfl, by decide +kernel, by decide +kernel⟩
noncomputable def b_law_worth : DL.Env → SR :=
  (seqS (asgS 1 (mkOf mkLst (itOne (qE (qK .non)) (itOne (qE (qK (.bl true))) (itOne (qE (qK (.int 0))) (itOne (qE (qOp (lift1 negK) (q1 (qK (.int 7))))) (itOne (qE (qOp (lift2 powI) (q2 (qK (.int 10)) (qK (.int 60))))) (itOne (qE (qK (.str ""))) (itOne (qE (qK (.str "in"))) (itOne (qE (qK (.str "a b"))) (itOne (qE (qOp dLst qNil)) (itOne (qE (qOp dLst (qCons (qK (.str "in")) qNil))) (itOne (qE (qOp dTup qNil)) (itOne (qE (qOp dTup (qCons (qK (.str "in")) (qCons (qOp dTup qNil) qNil)))) (itOne (qE (qK (.dic true []))) (itOne (dispE [(Sum.inr "a", (qE (qK (.int 1))))]) (itOne (mkOf mkLst (itOne (qE (qOp dLst (qCons (qOp dTup qNil) qNil))) itNil)) (itOne (qE (qK (.bl false))) itNil))))))))))))))))))
  (retS (callD m_law_pick [.nm 0, .nm 1])))
noncomputable def m_law_worth : List D → FR := runD N_law_worth.length [0] b_law_worth
theorem d_law_worth {P : Program} {w : World} {K : PySem.W.Frag} {mg : Str → Option Value} {base : Heap} {qual : Str} {f : Addr} (c_law_pick : Cal P w K mg base 3 "_law_pick" 2 m_law_pick) (cdv : Value) (A : Around) (outer : List PySem.Env) (s0 : Shared) (H : Hp) (E : XK)
    (hr : Room 3 (inCx P w K mg base N_law_worth qual (defScope s_law_worth) f cdv A outer s0 H E).A) (hgd : (inCx P w K mg base N_law_worth qual (defScope s_law_worth) f cdv A outer s0 H E).A.guards = some []) (tk : Takes (inCx P w K mg base N_law_worth qual (defScope s_law_worth) f cdv A outer s0 H E) (fun c d _ H => E c d H)) :
    DSs (inCx P w K mg base N_law_worth qual (defScope s_law_worth) f cdv A outer s0 H E) (fun c d _ H => E c d H) [0] (defBody s_law_worth) b_law_worth := by
  have nd := sc_law_worth.nd
  have hu1 : (inCx P w K mg base N_law_worth qual (defScope s_law_worth) f cdv A outer s0 H E).A.units + 1 < cLine := by have := hr.un; omega
  have hu64 : (inCx P w K mg base N_law_worth qual (defScope s_law_worth) f cdv A outer s0 H E).A.units + 64 < cLine := by have := hr.un; omega
  have hu160 : (inCx P w K mg base N_law_worth qual (defScope s_law_worth) f cdv A outer s0 H E).A.units + 160 < cLine := by have := hr.un; omega
  have hu65 : (inCx P w K mg base N_law_worth qual (defScope s_law_worth) f cdv A outer s0 H E).A.units + 65 < cLine := by have := hr.un; omega
  have pass : PassesOwn (model P w) (inCx P w K mg base N_law_worth qual (defScope s_law_worth) f cdv A outer s0 H E).A (inCx P w K mg base N_law_worth qual (defScope s_law_worth) f cdv A outer s0 H E).env (inCx P w K mg base N_law_worth qual (defScope s_law_worth) f cdv A outer s0 H E).xe := PassesOwn.leaving
  exact (dss_cons (ds_set (i := 1) nd rfl (by first | exact Or.inl rfl | exact Or.inr rfl) (de_lst (da_one (QF.de qf_non) (da_one (QF.de qf_bl) (da_one (QF.de qf_int) (da_one (QF.de (qf_un ud_neg (QF.toR qf_int))) (da_one (QF.de (qf_bin od_pow (QF.toR qf_int) (QF.toR qf_int))) (da_one (QF.de qf_str) (da_one (QF.de qf_str) (da_one (QF.de qf_str) (da_one (QF.de (qf_lst ql_nil)) (da_one (QF.de (qf_lst (ql_cons (QF.toR qf_str) ql_nil))) (da_one (QF.de (qf_tup ql_nil)) (da_one (QF.de (qf_tup (ql_cons (QF.toR qf_str) (ql_cons (QF.toR (qf_tup ql_nil)) ql_nil)))) (da_one (QF.de qf_dnew) (da_one (de_disp (dp_cons (k := Sum.inr "a") pe_str (QF.de qf_int) dp_nil) (by decide +kernel) (by decide) rfl) (da_one (de_lst (da_one (QF.de (qf_lst (ql_cons (QF.toR (qf_tup ql_nil)) ql_nil))) da_nil)) (da_one (QF.de qf_bl) da_nil))))))))))))))))) (by decide))
    (dss_one (ds_ret (de_callG c_law_pick (hr.mono (by decide)) hgd tk (by rfl) (dos_cons (do_nm (pv 0)) (dos_cons (do_nm (pv 1)) dos_nil))))))
theorem k_law_worth {P : Program} {w : World} {K : PySem.W.Frag} {mg : Str → Option Value} {base : Heap} {f : Addr} {fd : FuncData} (c_law_pick : Cal P w K mg base 3 "_law_pick" 2 m_law_pick) (F : Fun K "_law_worth" "_law_worth" s_law_worth f fd) (hm : mg "_law_worth" = some (.ref f)) (hb : Binds K fd ["_law_draw"] []) :
    Cal P w K mg base 4 "_law_worth" 1 m_law_worth :=
  ⟨f, fd, ["_law_draw"], fnG_D F sc_law_worth (by decide) (fun cdv A outer s0 H E hr hgd tk => d_law_worth c_law_pick cdv A outer s0 H E hr hgd tk), hm, F.kp, hb⟩
/-! ### _law_first_flags -/
abbrev s_law_first_flags : Stmt := top 32
def N_law_first_flags : List Str := ["_law_error", "_law_found"]
theorem sc_law_first_flags : FnScope N_law_first_flags ["_law_error"] (defScope s_law_first_flags) := ⟨rfl, rfl, rfl, by decide +kernel, rfl, by decide +kernel, by decide +kernel⟩
noncomputable def b_law_first_flags : DL.Env → SR :=
  (seqS (asgS 1 (qE (qOp dLst (qCons (qOp (lift1 (isiD bt_BadEntry ct_BadEntry it_BadEntry)) (q1 (qN 0))) (qCons (qOp (lift1 (isiD bt_Same ct_Same it_Same)) (q1 (qN 0))) (qCons (qOp (lift1 (isiD bt_Unlike ct_Unlike it_Unlike)) (q1 (qN 0))) qNil))))))
  (seqS (asgS 1 (qE (qOp (lift2 addD) (q2 (qN 1) (qOp dLst (qCons (qOp (lift1 (isiD bt_BadKind ct_BadKind it_BadKind)) (q1 (qN 0))) (qCons (qOp (lift1 (isiD bt_BadSet ct_BadSet it_BadSet)) (q1 (qN 0))) (qCons (qOp (lift1 (isiD bt_NotSingle ct_NotSingle it_NotSingle)) (q1 (qN 0))) qNil))))))))
  (seqS (asgS 1 (qE (qOp (lift2 addD) (q2 (qN 1) (qOp dLst (qCons (qOp (lift1 (isiD bt_BadRing ct_BadRing it_BadRing)) (q1 (qN 0))) (qCons (qOp (lift1 (isiD bt_BadNumber ct_BadNumber it_BadNumber)) (q1 (qN 0))) (qCons (qOp (lift1 (isiD bt_OtherFilled ct_OtherFilled it_OtherFilled)) (q1 (qN 0))) qNil))))))))
  (seqS (asgS 1 (qE (qOp (lift2 addD) (q2 (qN 1) (qOp dLst (qCons (qOp (lift1 (isiD bt_BadPlan ct_BadPlan it_BadPlan)) (q1 (qN 0))) (qCons (qOp (lift1 (isiD bt_BadSeen ct_BadSeen it_BadSeen)) (q1 (qN 0))) (qCons (qOp (lift1 (isiD bt_BadView ct_BadView it_BadView)) (q1 (qN 0))) qNil))))))))
  (retS (qE (qOp (lift2 addD) (q2 (qN 1) (qOp dLst (qCons (qOp (lift1 (isiD bt_BadPerson ct_BadPerson it_BadPerson)) (q1 (qN 0))) (qCons (qOp (lift1 (isiD bt_NoEntry ct_NoEntry it_NoEntry)) (q1 (qN 0))) (qCons (qOp (lift1 (isiD bt_NothingDone ct_NothingDone it_NothingDone)) (q1 (qN 0))) qNil))))))))))))
noncomputable def m_law_first_flags : List D → FR := runD N_law_first_flags.length [0] b_law_first_flags
theorem d_law_first_flags {P : Program} {w : World} {K : PySem.W.Frag} {mg : Str → Option Value} {base : Heap} {qual : Str} {f : Addr} (o_BadEntry : IsOwn K mg "BadEntry" bt_BadEntry ct_BadEntry it_BadEntry) (o_Same : IsOwn K mg "Same" bt_Same ct_Same it_Same) (o_Unlike : IsOwn K mg "Unlike" bt_Unlike ct_Unlike it_Unlike) (o_BadKind : IsOwn K mg "BadKind" bt_BadKind ct_BadKind it_BadKind) (o_BadSet : IsOwn K mg "BadSet" bt_BadSet ct_BadSet it_BadSet) (o_NotSingle : IsOwn K mg "NotSingle" bt_NotSingle ct_NotSingle it_NotSingle) (o_BadRing : IsOwn K mg "BadRing" bt_BadRing ct_BadRing it_BadRing) (o_BadNumber : IsOwn K mg "BadNumber" bt_BadNumber ct_BadNumber it_BadNumber) (o_OtherFilled : IsOwn K mg "OtherFilled" bt_OtherFilled ct_OtherFilled it_OtherFilled) (o_BadPlan : IsOwn K mg "BadPlan" bt_BadPlan ct_BadPlan it_BadPlan) (o_BadSeen : IsOwn K mg "BadSeen" bt_BadSeen ct_BadSeen it_BadSeen) (o_BadView : IsOwn K mg "BadView" bt_BadView ct_BadView it_BadView) (o_BadPerson : IsOwn K mg "BadPerson" bt_BadPerson ct_BadPerson it_BadPerson) (o_NoEntry : IsOwn K mg "NoEntry" bt_NoEntry ct_NoEntry it_NoEntry) (o_NothingDone : IsOwn K mg "NothingDone" bt_NothingDone ct_NothingDone it_NothingDone) (g_isinstance : mg "isinstance" = none) (cdv : Value) (A : Around) (outer : List PySem.Env) (s0 : Shared) (H : Hp) (E : XK)
    (hr : Room 0 (inCx P w K mg base N_law_first_flags qual (defScope s_law_first_flags) f cdv A outer s0 H E).A) (hgd : (inCx P w K mg base N_law_first_flags qual (defScope s_law_first_flags) f cdv A outer s0 H E).A.guards = some []) (tk : Takes (inCx P w K mg base N_law_first_flags qual (defScope s_law_first_flags) f cdv A outer s0 H E) (fun c d _ H => E c d H)) :
    DSs (inCx P w K mg base N_law_first_flags qual (defScope s_law_first_flags) f cdv A outer s0 H E) (fun c d _ H => E c d H) [0] (defBody s_law_first_flags) b_law_first_flags := by
  have nd := sc_law_first_flags.nd
  have hu1 : (inCx P w K mg base N_law_first_flags qual (defScope s_law_first_flags) f cdv A outer s0 H E).A.units + 1 < cLine := by have := hr.un; omega
  have hu64 : (inCx P w K mg base N_law_first_flags qual (defScope s_law_first_flags) f cdv A outer s0 H E).A.units + 64 < cLine := by have := hr.un; omega
  have hu160 : (inCx P w K mg base N_law_first_flags qual (defScope s_law_first_flags) f cdv A outer s0 H E).A.units + 160 < cLine := by have := hr.un; omega
  have hu65 : (inCx P w K mg base N_law_first_flags qual (defScope s_law_first_flags) f cdv A outer s0 H E).A.units + 65 < cLine := by have := hr.un; omega
  have pass : PassesOwn (model P w) (inCx P w K mg base N_law_first_flags qual (defScope s_law_first_flags) f cdv A outer s0 H E).A (inCx P w K mg base N_law_first_flags qual (defScope s_law_first_flags) f cdv A outer s0 H E).env (inCx P w K mg base N_law_first_flags qual (defScope s_law_first_flags) f cdv A outer s0 H E).xe := PassesOwn.leaving
  exact (dss_cons (ds_set (i := 1) nd rfl (by first | exact Or.inl rfl | exact Or.inr rfl) (QF.de (qf_lst (ql_cons (QF.toR (qf_isiO o_BadEntry (by rfl) g_isinstance (qr_nm (pv 0)) (by rfl))) (ql_cons (QF.toR (qf_isiO o_Same (by rfl) g_isinstance (qr_nm (pv 0)) (by rfl))) (ql_cons (QF.toR (qf_isiO o_Unlike (by rfl) g_isinstance (qr_nm (pv 0)) (by rfl))) ql_nil))))) (by decide))
    (dss_cons (ds_set (i := 1) nd rfl (by first | exact Or.inl rfl | exact Or.inr rfl) (QF.de (qf_bin od_add (qr_nm (pv 1)) (QF.toR (qf_lst (ql_cons (QF.toR (qf_isiO o_BadKind (by rfl) g_isinstance (qr_nm (pv 0)) (by rfl))) (ql_cons (QF.toR (qf_isiO o_BadSet (by rfl) g_isinstance (qr_nm (pv 0)) (by rfl))) (ql_cons (QF.toR (qf_isiO o_NotSingle (by rfl) g_isinstance (qr_nm (pv 0)) (by rfl))) ql_nil))))))) (by decide))
    (dss_cons (ds_set (i := 1) nd rfl (by first | exact Or.inl rfl | exact Or.inr rfl) (QF.de (qf_bin od_add (qr_nm (pv 1)) (QF.toR (qf_lst (ql_cons (QF.toR (qf_isiO o_BadRing (by rfl) g_isinstance (qr_nm (pv 0)) (by rfl))) (ql_cons (QF.toR (qf_isiO o_BadNumber (by rfl) g_isinstance (qr_nm (pv 0)) (by rfl))) (ql_cons (QF.toR (qf_isiO o_OtherFilled (by rfl) g_isinstance (qr_nm (pv 0)) (by rfl))) ql_nil))))))) (by decide))
    (dss_cons (ds_set (i := 1) nd rfl (by first | exact Or.inl rfl | exact Or.inr rfl) (QF.de (qf_bin od_add (qr_nm (pv 1)) (QF.toR (qf_lst (ql_cons (QF.toR (qf_isiO o_BadPlan (by rfl) g_isinstance (qr_nm (pv 0)) (by rfl))) (ql_cons (QF.toR (qf_isiO o_BadSeen (by rfl) g_isinstance (qr_nm (pv 0)) (by rfl))) (ql_cons (QF.toR (qf_isiO o_BadView (by rfl) g_isinstance (qr_nm (pv 0)) (by rfl))) ql_nil))))))) (by decide))
    (dss_one (ds_ret (QF.de (qf_bin od_add (qr_nm (pv 1)) (QF.toR (qf_lst (ql_cons (QF.toR (qf_isiO o_BadPerson (by rfl) g_isinstance (qr_nm (pv 0)) (by rfl))) (ql_cons (QF.toR (qf_isiO o_NoEntry (by rfl) g_isinstance (qr_nm (pv 0)) (by rfl))) (ql_cons (QF.toR (qf_isiO o_NothingDone (by rfl) g_isinstance (qr_nm (pv 0)) (by rfl))) ql_nil)))))))))))))
theorem k_law_first_flags {P : Program} {w : World} {K : PySem.W.Frag} {mg : Str → Option Value} {base : Heap} {f : Addr} {fd : FuncData} (o_BadEntry : IsOwn K mg "BadEntry" bt_BadEntry ct_BadEntry it_BadEntry) (o_Same : IsOwn K mg "Same" bt_Same ct_Same it_Same) (o_Unlike : IsOwn K mg "Unlike" bt_Unlike ct_Unlike it_Unlike) (o_BadKind : IsOwn K mg "BadKind" bt_BadKind ct_BadKind it_BadKind) (o_BadSet : IsOwn K mg "BadSet" bt_BadSet ct_BadSet it_BadSet) (o_NotSingle : IsOwn K mg "NotSingle" bt_NotSingle ct_NotSingle it_NotSingle) (o_BadRing : IsOwn K mg "BadRing" bt_BadRing ct_BadRing it_BadRing) (o_BadNumber : IsOwn K mg "BadNumber" bt_BadNumber ct_BadNumber it_BadNumber) (o_OtherFilled : IsOwn K mg "OtherFilled" bt_OtherFilled ct_OtherFilled it_OtherFilled) (o_BadPlan : IsOwn K mg "BadPlan" bt_BadPlan ct_BadPlan it_BadPlan) (o_BadSeen : IsOwn K mg "BadSeen" bt_BadSeen ct_BadSeen it_BadSeen) (o_BadView : IsOwn K mg "BadView" bt_BadView ct_BadView it_BadView) (o_BadPerson : IsOwn K mg "BadPerson" bt_BadPerson ct_BadPerson it_BadPerson) (o_NoEntry : IsOwn K mg "NoEntry" bt_NoEntry ct_NoEntry it_NoEntry) (o_NothingDone : IsOwn K mg "NothingDone" bt_NothingDone ct_NothingDone it_NothingDone) (g_isinstance : mg "isinstance" = none) (F : Fun K "_law_first_flags" "_law_first_flags" s_law_first_flags f fd) (hm : mg "_law_first_flags" = some (.ref f)) (hb : Binds K fd ["_law_error"] []) :
    Cal P w K mg base 1 "_law_first_flags" 1 m_law_first_flags :=
  ⟨f, fd, ["_law_error"], fnG_D F sc_law_first_flags (by decide) (fun cdv A outer s0 H E hr hgd tk => d_law_first_flags o_BadEntry o_Same o_Unlike o_BadKind o_BadSet o_NotSingle o_BadRing o_BadNumber o_OtherFilled o_BadPlan o_BadSeen o_BadView o_BadPerson o_NoEntry o_NothingDone g_isinstance cdv A outer s0 H E hr hgd tk), hm, F.kp, hb⟩
/-! ### _law_flags -/
abbrev s_law_flags : Stmt := top 33
def N_law_flags : List Str := ["_law_error", "_law_found"]
theorem sc_law_flags : FnScope N_law_flags ["_law_error"] (defScope s_law_flags) := ⟨rfl, rfl, rfl, by decide +kernel, rfl, by decide +kernel, by decide +kernel⟩
noncomputable def b_law_flags : DL.Env → SR :=
  (seqS (asgS 1 (pureOp (lift2 addD) [.ex (callD m_law_first_flags [.nm 0]), .ex (qE (qOp dLst (qCons (qOp (lift1 (isiD bt_BadBook ct_BadBook it_BadBook)) (q1 (qN 0))) (qCons (qOp (lift1 (isiD bt_NoList ct_NoList it_NoList)) (q1 (qN 0))) qNil))))]))
  (seqS (asgS 1 (qE (qOp (lift2 addD) (q2 (qN 1) (qOp dLst (qCons (qOp (lift1 (isiD bt_TooMany ct_TooMany it_TooMany)) (q1 (qN 0))) (qCons (qOp (lift1 (isiD bt_BadLot ct_BadLot it_BadLot)) (q1 (qN 0))) (qCons (qOp (lift1 (isiD bt_NoAnswer ct_NoAnswer it_NoAnswer)) (q1 (qN 0))) qNil))))))))
  (seqS (asgS 1 (qE (qOp (lift2 addD) (q2 (qN 1) (qOp dLst (qCons (qOp (lift1 (isiD bt_NotSettled ct_NotSettled it_NotSettled)) (q1 (qN 0))) (qCons (qOp (lift1 (isiD bt_NoPerson ct_NoPerson it_NoPerson)) (q1 (qN 0))) (qCons (qOp (lift1 (isiD bt_BadJournal ct_BadJournal it_BadJournal)) (q1 (qN 0))) qNil))))))))
  (retS (qE (qOp (lift2 addD) (q2 (qN 1) (qOp dLst (qCons (qOp (lift1 (isiD bt_BadText ct_BadText it_BadText)) (q1 (qN 0))) qNil)))))))))
noncomputable def m_law_flags : List D → FR := runD N_law_flags.length [0] b_law_flags
theorem d_law_flags {P : Program} {w : World} {K : PySem.W.Frag} {mg : Str → Option Value} {base : Heap} {qual : Str} {f : Addr} (o_BadBook : IsOwn K mg "BadBook" bt_BadBook ct_BadBook it_BadBook) (o_NoList : IsOwn K mg "NoList" bt_NoList ct_NoList it_NoList) (o_TooMany : IsOwn K mg "TooMany" bt_TooMany ct_TooMany it_TooMany) (o_BadLot : IsOwn K mg "BadLot" bt_BadLot ct_BadLot it_BadLot) (o_NoAnswer : IsOwn K mg "NoAnswer" bt_NoAnswer ct_NoAnswer it_NoAnswer) (o_NotSettled : IsOwn K mg "NotSettled" bt_NotSettled ct_NotSettled it_NotSettled) (o_NoPerson : IsOwn K mg "NoPerson" bt_NoPerson ct_NoPerson it_NoPerson) (o_BadJournal : IsOwn K mg "BadJournal" bt_BadJournal ct_BadJournal it_BadJournal) (o_BadText : IsOwn K mg "BadText" bt_BadText ct_BadText it_BadText) (g_isinstance : mg "isinstance" = none) (c_law_first_flags : Cal P w K mg base 1 "_law_first_flags" 1 m_law_first_flags) (cdv : Value) (A : Around) (outer : List PySem.Env) (s0 : Shared) (H : Hp) (E : XK)
    (hr : Room 1 (inCx P w K mg base N_law_flags qual (defScope s_law_flags) f cdv A outer s0 H E).A) (hgd : (inCx P w K mg base N_law_flags qual (defScope s_law_flags) f cdv A outer s0 H E).A.guards = some []) (tk : Takes (inCx P w K mg base N_law_flags qual (defScope s_law_flags) f cdv A outer s0 H E) (fun c d _ H => E c d H)) :
    DSs (inCx P w K mg base N_law_flags qual (defScope s_law_flags) f cdv A outer s0 H E) (fun c d _ H => E c d H) [0] (defBody s_law_flags) b_law_flags := by
  have nd := sc_law_flags.nd
  have hu1 : (inCx P w K mg base N_law_flags qual (defScope s_law_flags) f cdv A outer s0 H E).A.units + 1 < cLine := by have := hr.un; omega
  have hu64 : (inCx P w K mg base N_law_flags qual (defScope s_law_flags) f cdv A outer s0 H E).A.units + 64 < cLine := by have := hr.un; omega
  have hu160 : (inCx P w K mg base N_law_flags qual (defScope s_law_flags) f cdv A outer s0 H E).A.units + 160 < cLine := by have := hr.un; omega
  have hu65 : (inCx P w K mg base N_law_flags qual (defScope s_law_flags) f cdv A outer s0 H E).A.units + 65 < cLine := by have := hr.un; omega
  have pass : PassesOwn (model P w) (inCx P w K mg base N_law_flags qual (defScope s_law_flags) f cdv A outer s0 H E).A (inCx P w K mg base N_law_flags qual (defScope s_law_flags) f cdv A outer s0 H E).env (inCx P w K mg base N_law_flags qual (defScope s_law_flags) f cdv A outer s0 H E).xe := PassesOwn.leaving
  exact (dss_cons (ds_set (i := 1) nd rfl (by first | exact Or.inl rfl | exact Or.inr rfl) (de_binD od_add (do_ex (de_callG c_law_first_flags (hr.mono (by decide)) hgd tk (by rfl) (dos_cons (do_nm (pv 0)) dos_nil))) (do_ex (QF.de (qf_lst (ql_cons (QF.toR (qf_isiO o_BadBook (by rfl) g_isinstance (qr_nm (pv 0)) (by rfl))) (ql_cons (QF.toR (qf_isiO o_NoList (by rfl) g_isinstance (qr_nm (pv 0)) (by rfl))) ql_nil)))))) (by decide))
    (dss_cons (ds_set (i := 1) nd rfl (by first | exact Or.inl rfl | exact Or.inr rfl) (QF.de (qf_bin od_add (qr_nm (pv 1)) (QF.toR (qf_lst (ql_cons (QF.toR (qf_isiO o_TooMany (by rfl) g_isinstance (qr_nm (pv 0)) (by rfl))) (ql_cons (QF.toR (qf_isiO o_BadLot (by rfl) g_isinstance (qr_nm (pv 0)) (by rfl))) (ql_cons (QF.toR (qf_isiO o_NoAnswer (by rfl) g_isinstance (qr_nm (pv 0)) (by rfl))) ql_nil))))))) (by decide))
    (dss_cons (ds_set (i := 1) nd rfl (by first | exact Or.inl rfl | exact Or.inr rfl) (QF.de (qf_bin od_add (qr_nm (pv 1)) (QF.toR (qf_lst (ql_cons (QF.toR (qf_isiO o_NotSettled (by rfl) g_isinstance (qr_nm (pv 0)) (by rfl))) (ql_cons (QF.toR (qf_isiO o_NoPerson (by rfl) g_isinstance (qr_nm (pv 0)) (by rfl))) (ql_cons (QF.toR (qf_isiO o_BadJournal (by rfl) g_isinstance (qr_nm (pv 0)) (by rfl))) ql_nil))))))) (by decide))
    (dss_one (ds_ret (QF.de (qf_bin od_add (qr_nm (pv 1)) (QF.toR (qf_lst (ql_cons (QF.toR (qf_isiO o_BadText (by rfl) g_isinstance (qr_nm (pv 0)) (by rfl))) ql_nil))))))))))
theorem k_law_flags {P : Program} {w : World} {K : PySem.W.Frag} {mg : Str → Option Value} {base : Heap} {f : Addr} {fd : FuncData} (o_BadBook : IsOwn K mg "BadBook" bt_BadBook ct_BadBook it_BadBook) (o_NoList : IsOwn K mg "NoList" bt_NoList ct_NoList it_NoList) (o_TooMany : IsOwn K mg "TooMany" bt_TooMany ct_TooMany it_TooMany) (o_BadLot : IsOwn K mg "BadLot" bt_BadLot ct_BadLot it_BadLot) (o_NoAnswer : IsOwn K mg "NoAnswer" bt_NoAnswer ct_NoAnswer it_NoAnswer) (o_NotSettled : IsOwn K mg "NotSettled" bt_NotSettled ct_NotSettled it_NotSettled) (o_NoPerson : IsOwn K mg "NoPerson" bt_NoPerson ct_NoPerson it_NoPerson) (o_BadJournal : IsOwn K mg "BadJournal" bt_BadJournal ct_BadJournal it_BadJournal) (o_BadText : IsOwn K mg "BadText" bt_BadText ct_BadText it_BadText) (g_isinstance : mg "isinstance" = none) (c_law_first_flags : Cal P w K mg base 1 "_law_first_flags" 1 m_law_first_flags) (F : Fun K "_law_flags" "_law_flags" s_law_flags f fd) (hm : mg "_law_flags" = some (.ref f)) (hb : Binds K fd ["_law_error"] []) :
    Cal P w K mg base 2 "_law_flags" 1 m_law_flags :=
  ⟨f, fd, ["_law_error"], fnG_D F sc_law_flags (by decide) (fun cdv A outer s0 H E hr hgd tk => d_law_flags o_BadBook o_NoList o_TooMany o_BadLot o_NoAnswer o_NotSettled o_NoPerson o_BadJournal o_BadText g_isinstance c_law_first_flags cdv A outer s0 H E hr hgd tk), hm, F.kp, hb⟩
/-! ### _law_held -/
abbrev s_law_held : Stmt := top 34
def N_law_held : List Str := ["_law_worth_here", "_law_some", "_law_told"]
theorem sc_law_held : FnScope N_law_held ["_law_worth_here"] (defScope s_law_held) := ⟨rfl, rfl, rfl, by decide +kernel, rfl, by decide +kernel, by decide +kernel⟩
noncomputable def b_law_held : DL.Env → SR :=
  (seqS (asgS 1 (mkOf mkLst (itOne (mkErrD "BadBook" "name" (cp 0)) (itOne (mkErrD "NoList" "name" (cp 0)) (itOne (mkErrD "TooMany" "most" (cp 0)) (itOne (mkErrD "BadLot" "at" (cp 0)) (itOne (mkErrD "NoAnswer" "answer" (cp 0)) (itOne (mkErrD "NotSettled" "kind" (cp 0)) itNil))))))))
  (seqS (asgS 1 (pureOp (lift2 addD) [.nm 1, .ex (mkOf mkLst (itOne (mkErrD "NoPerson" "person" (cp 0)) (itOne (mkErrD "BadJournal" "at" (cp 0)) (itOne (mkErrD "BadText" "at" (cp 0)) itNil))))]))
  (seqS (asgS 2 (qE (qOp dLst (qCons (qFld errT "name" (qSub (qN 1) (qK (.int 0)))) (qCons (qFld errT "name" (qSub (qN 1) (qK (.int 1)))) (qCons (qFld errT "most" (qSub (qN 1) (qK (.int 2)))) (qCons (qFld errT "at" (qSub (qN 1) (qK (.int 3)))) (qCons (qFld errT "answer" (qSub (qN 1) (qK (.int 4)))) (qCons (qFld errT "kind" (qSub (qN 1) (qK (.int 5)))) (qCons (qFld errT "person" (qSub (qN 1) (qK (.int 6)))) qNil))))))))))
  (retS (dispA dTup (qCons (qN 1) (qCons (qOp (lift2 addD) (q2 (qN 2) (qOp dLst (qCons (qFld errT "at" (qSub (qN 1) (qK (.int 7)))) (qCons (qFld errT "at" (qSub (qN 1) (qK (.int 8)))) qNil))))) qNil)) (mkOf mkTup (itOne (cp 1) (itOne (qE (qOp (lift2 addD) (q2 (qN 2) (qOp dLst (qCons (qFld errT "at" (qSub (qN 1) (qK (.int 7)))) (qCons (qFld errT "at" (qSub (qN 1) (qK (.int 8)))) qNil)))))) itNil))))))))
noncomputable def m_law_held : List D → FR := runD N_law_held.length [0] b_law_held
theorem d_law_held {P : Program} {w : World} {K : PySem.W.Frag} {mg : Str → Option Value} {base : Heap} {qual : Str} {f : Addr} (m_NotSettled : MkErr P w K mg base "NotSettled" "kind") (m_NoAnswer : MkErr P w K mg base "NoAnswer" "answer") (m_BadLot : MkErr P w K mg base "BadLot" "at") (m_TooMany : MkErr P w K mg base "TooMany" "most") (m_NoList : MkErr P w K mg base "NoList" "name") (m_BadBook : MkErr P w K mg base "BadBook" "name") (m_BadText : MkErr P w K mg base "BadText" "at") (m_BadJournal : MkErr P w K mg base "BadJournal" "at") (m_NoPerson : MkErr P w K mg base "NoPerson" "person") (tb_err : ErrTab K mg errT errN) (cdv : Value) (A : Around) (outer : List PySem.Env) (s0 : Shared) (H : Hp) (E : XK)
    (hr : Room 2 (inCx P w K mg base N_law_held qual (defScope s_law_held) f cdv A outer s0 H E).A) (hgd : (inCx P w K mg base N_law_held qual (defScope s_law_held) f cdv A outer s0 H E).A.guards = some []) (tk : Takes (inCx P w K mg base N_law_held qual (defScope s_law_held) f cdv A outer s0 H E) (fun c d _ H => E c d H)) :
    DSs (inCx P w K mg base N_law_held qual (defScope s_law_held) f cdv A outer s0 H E) (fun c d _ H => E c d H) [0] (defBody s_law_held) b_law_held := by
  have nd := sc_law_held.nd
  have hu1 : (inCx P w K mg base N_law_held qual (defScope s_law_held) f cdv A outer s0 H E).A.units + 1 < cLine := by have := hr.un; omega
  have hu64 : (inCx P w K mg base N_law_held qual (defScope s_law_held) f cdv A outer s0 H E).A.units + 64 < cLine := by have := hr.un; omega
  have hu160 : (inCx P w K mg base N_law_held qual (defScope s_law_held) f cdv A outer s0 H E).A.units + 160 < cLine := by have := hr.un; omega
  have hu65 : (inCx P w K mg base N_law_held qual (defScope s_law_held) f cdv A outer s0 H E).A.units + 65 < cLine := by have := hr.un; omega
  have pass : PassesOwn (model P w) (inCx P w K mg base N_law_held qual (defScope s_law_held) f cdv A outer s0 H E).A (inCx P w K mg base N_law_held qual (defScope s_law_held) f cdv A outer s0 H E).env (inCx P w K mg base N_law_held qual (defScope s_law_held) f cdv A outer s0 H E).xe := PassesOwn.leaving
  exact (dss_cons (ds_set (i := 1) nd rfl (by first | exact Or.inl rfl | exact Or.inr rfl) (de_lst (da_one (de_mkErr (k := 0) m_BadBook (hr.mono (by decide)) (by rfl) (de_cp (pv 0))) (da_one (de_mkErr (k := 0) m_NoList (hr.mono (by decide)) (by rfl) (de_cp (pv 0))) (da_one (de_mkErr (k := 0) m_TooMany (hr.mono (by decide)) (by rfl) (de_cp (pv 0))) (da_one (de_mkErr (k := 0) m_BadLot (hr.mono (by decide)) (by rfl) (de_cp (pv 0))) (da_one (de_mkErr (k := 0) m_NoAnswer (hr.mono (by decide)) (by rfl) (de_cp (pv 0))) (da_one (de_mkErr (k := 0) m_NotSettled (hr.mono (by decide)) (by rfl) (de_cp (pv 0))) da_nil))))))) (by decide))
    (dss_cons (ds_set (i := 1) nd rfl (by first | exact Or.inl rfl | exact Or.inr rfl) (de_binD od_add (do_nm (pv 1)) (do_ex (de_lst (da_one (de_mkErr (k := 0) m_NoPerson (hr.mono (by decide)) (by rfl) (de_cp (pv 0))) (da_one (de_mkErr (k := 0) m_BadJournal (hr.mono (by decide)) (by rfl) (de_cp (pv 0))) (da_one (de_mkErr (k := 0) m_BadText (hr.mono (by decide)) (by rfl) (de_cp (pv 0))) da_nil)))))) (by decide))
    (dss_cons (ds_set (i := 2) nd rfl (by first | exact Or.inl rfl | exact Or.inr rfl) (QF.de (qf_lst (ql_cons (qr_fld tb_err (by decide) (qr_sub hu1 (qr_nm (pv 1)) (QF.toR qf_int) (fun _ _ => rfl))) (ql_cons (qr_fld tb_err (by decide) (qr_sub hu1 (qr_nm (pv 1)) (QF.toR qf_int) (fun _ _ => rfl))) (ql_cons (qr_fld tb_err (by decide) (qr_sub hu1 (qr_nm (pv 1)) (QF.toR qf_int) (fun _ _ => rfl))) (ql_cons (qr_fld tb_err (by decide) (qr_sub hu1 (qr_nm (pv 1)) (QF.toR qf_int) (fun _ _ => rfl))) (ql_cons (qr_fld tb_err (by decide) (qr_sub hu1 (qr_nm (pv 1)) (QF.toR qf_int) (fun _ _ => rfl))) (ql_cons (qr_fld tb_err (by decide) (qr_sub hu1 (qr_nm (pv 1)) (QF.toR qf_int) (fun _ _ => rfl))) (ql_cons (qr_fld tb_err (by decide) (qr_sub hu1 (qr_nm (pv 1)) (QF.toR qf_int) (fun _ _ => rfl))) ql_nil))))))))) (by decide))
    (dss_one (ds_ret (de_dispA (QF.de (qf_tup (ql_cons (qr_nm (pv 1)) (ql_cons (QF.toR (qf_bin od_add (qr_nm (pv 2)) (QF.toR (qf_lst (ql_cons (qr_fld tb_err (by decide) (qr_sub hu1 (qr_nm (pv 1)) (QF.toR qf_int) (fun _ _ => rfl))) (ql_cons (qr_fld tb_err (by decide) (qr_sub hu1 (qr_nm (pv 1)) (QF.toR qf_int) (fun _ _ => rfl))) ql_nil)))))) ql_nil)))) (de_tup (da_one (de_cp (pv 1)) (da_one (QF.de (qf_bin od_add (qr_nm (pv 2)) (QF.toR (qf_lst (ql_cons (qr_fld tb_err (by decide) (qr_sub hu1 (qr_nm (pv 1)) (QF.toR qf_int) (fun _ _ => rfl))) (ql_cons (qr_fld tb_err (by decide) (qr_sub hu1 (qr_nm (pv 1)) (QF.toR qf_int) (fun _ _ => rfl))) ql_nil)))))) da_nil)))))))))
theorem k_law_held {P : Program} {w : World} {K : PySem.W.Frag} {mg : Str → Option Value} {base : Heap} {f : Addr} {fd : FuncData} (m_NotSettled : MkErr P w K mg base "NotSettled" "kind") (m_NoAnswer : MkErr P w K mg base "NoAnswer" "answer") (m_BadLot : MkErr P w K mg base "BadLot" "at") (m_TooMany : MkErr P w K mg base "TooMany" "most") (m_NoList : MkErr P w K mg base "NoList" "name") (m_BadBook : MkErr P w K mg base "BadBook" "name") (m_BadText : MkErr P w K mg base "BadText" "at") (m_BadJournal : MkErr P w K mg base "BadJournal" "at") (m_NoPerson : MkErr P w K mg base "NoPerson" "person") (tb_err : ErrTab K mg errT errN) (F : Fun K "_law_held" "_law_held" s_law_held f fd) (hm : mg "_law_held" = some (.ref f)) (hb : Binds K fd ["_law_worth_here"] []) :
    Cal P w K mg base 3 "_law_held" 1 m_law_held :=
  ⟨f, fd, ["_law_worth_here"], fnG_D F sc_law_held (by decide) (fun cdv A outer s0 H E hr hgd tk => d_law_held m_NotSettled m_NoAnswer m_BadLot m_TooMany m_NoList m_BadBook m_BadText m_BadJournal m_NoPerson tb_err cdv A outer s0 H E hr hgd tk), hm, F.kp, hb⟩
/-! ### _law_named -/
abbrev s_law_named : Stmt := top 35
def N_law_named : List Str := ["_law_worth_here", "_law_found"]
theorem sc_law_named : FnScope N_law_named ["_law_worth_here"] (defScope s_law_named) := ⟨rfl, rfl, rfl, by decide +kernel, rfl, by decide +kernel, by decide +kernel⟩
noncomputable def b_law_named : DL.Env → SR :=
  (seqS (asgS 1 (mkOf mkLst (itOne (fldX errT "name" (mkErrD "BadBook" "name" (cp 0))) (itOne (fldX errT "name" (mkErrD "NoList" "name" (cp 0))) (itOne (fldX errT "most" (mkErrD "TooMany" "most" (cp 0))) (itOne (fldX errT "at" (mkErrD "BadLot" "at" (cp 0))) itNil))))))
  (seqS (asgS 1 (pureOp (lift2 addD) [.nm 1, .ex (mkOf mkLst (itOne (fldX errT "answer" (mkErrD "NoAnswer" "answer" (cp 0))) (itOne (fldX errT "kind" (mkErrD "NotSettled" "kind" (cp 0))) (itOne (fldX errT "person" (mkErrD "NoPerson" "person" (cp 0))) itNil))))]))
  (retS (pureOp (lift2 addD) [.nm 1, .ex (mkOf mkLst (itOne (fldX errT "at" (mkErrD "BadJournal" "at" (cp 0))) (itOne (fldX errT "at" (mkErrD "BadText" "at" (cp 0))) itNil)))]))))
noncomputable def m_law_named : List D → FR := runD N_law_named.length [0] b_law_named
theorem d_law_named {P : Program} {w : World} {K : PySem.W.Frag} {mg : Str → Option Value} {base : Heap} {qual : Str} {f : Addr} (k_BadLot : MkErrK P w K mg base "BadLot" "at" "at") (k_TooMany : MkErrK P w K mg base "TooMany" "most" "most") (k_NoList : MkErrK P w K mg base "NoList" "name" "name") (k_BadBook : MkErrK P w K mg base "BadBook" "name" "name") (k_NoPerson : MkErrK P w K mg base "NoPerson" "person" "person") (k_NotSettled : MkErrK P w K mg base "NotSettled" "kind" "kind") (k_NoAnswer : MkErrK P w K mg base "NoAnswer" "answer" "answer") (k_BadText : MkErrK P w K mg base "BadText" "at" "at") (k_BadJournal : MkErrK P w K mg base "BadJournal" "at" "at") (tb_err : ErrTab K mg errT errN) (cdv : Value) (A : Around) (outer : List PySem.Env) (s0 : Shared) (H : Hp) (E : XK)
    (hr : Room 2 (inCx P w K mg base N_law_named qual (defScope s_law_named) f cdv A outer s0 H E).A) (hgd : (inCx P w K mg base N_law_named qual (defScope s_law_named) f cdv A outer s0 H E).A.guards = some []) (tk : Takes (inCx P w K mg base N_law_named qual (defScope s_law_named) f cdv A outer s0 H E) (fun c d _ H => E c d H)) :
    DSs (inCx P w K mg base N_law_named qual (defScope s_law_named) f cdv A outer s0 H E) (fun c d _ H => E c d H) [0] (defBody s_law_named) b_law_named := by
  have nd := sc_law_named.nd
  have hu1 : (inCx P w K mg base N_law_named qual (defScope s_law_named) f cdv A outer s0 H E).A.units + 1 < cLine := by have := hr.un; omega
  have hu64 : (inCx P w K mg base N_law_named qual (defScope s_law_named) f cdv A outer s0 H E).A.units + 64 < cLine := by have := hr.un; omega
  have hu160 : (inCx P w K mg base N_law_named qual (defScope s_law_named) f cdv A outer s0 H E).A.units + 160 < cLine := by have := hr.un; omega
  have hu65 : (inCx P w K mg base N_law_named qual (defScope s_law_named) f cdv A outer s0 H E).A.units + 65 < cLine := by have := hr.un; omega
  have pass : PassesOwn (model P w) (inCx P w K mg base N_law_named qual (defScope s_law_named) f cdv A outer s0 H E).A (inCx P w K mg base N_law_named qual (defScope s_law_named) f cdv A outer s0 H E).env (inCx P w K mg base N_law_named qual (defScope s_law_named) f cdv A outer s0 H E).xe := PassesOwn.leaving
  exact (dss_cons (ds_set (i := 1) nd rfl (by first | exact Or.inl rfl | exact Or.inr rfl) (de_lst (da_one (de_fld tb_err (by decide) (de_mkErrK (k := 0) k_BadBook (hr.mono (by decide)) (by rfl) (de_cp (pv 0)))) (da_one (de_fld tb_err (by decide) (de_mkErrK (k := 0) k_NoList (hr.mono (by decide)) (by rfl) (de_cp (pv 0)))) (da_one (de_fld tb_err (by decide) (de_mkErrK (k := 0) k_TooMany (hr.mono (by decide)) (by rfl) (de_cp (pv 0)))) (da_one (de_fld tb_err (by decide) (de_mkErrK (k := 0) k_BadLot (hr.mono (by decide)) (by rfl) (de_cp (pv 0)))) da_nil))))) (by decide))
    (dss_cons (ds_set (i := 1) nd rfl (by first | exact Or.inl rfl | exact Or.inr rfl) (de_binD od_add (do_nm (pv 1)) (do_ex (de_lst (da_one (de_fld tb_err (by decide) (de_mkErrK (k := 0) k_NoAnswer (hr.mono (by decide)) (by rfl) (de_cp (pv 0)))) (da_one (de_fld tb_err (by decide) (de_mkErrK (k := 0) k_NotSettled (hr.mono (by decide)) (by rfl) (de_cp (pv 0)))) (da_one (de_fld tb_err (by decide) (de_mkErrK (k := 0) k_NoPerson (hr.mono (by decide)) (by rfl) (de_cp (pv 0)))) da_nil)))))) (by decide))
    (dss_one (ds_ret (de_binD od_add (do_nm (pv 1)) (do_ex (de_lst (da_one (de_fld tb_err (by decide) (de_mkErrK (k := 0) k_BadJournal (hr.mono (by decide)) (by rfl) (de_cp (pv 0)))) (da_one (de_fld tb_err (by decide) (de_mkErrK (k := 0) k_BadText (hr.mono (by decide)) (by rfl) (de_cp (pv 0)))) da_nil)))))))))
theorem k_law_named {P : Program} {w : World} {K : PySem.W.Frag} {mg : Str → Option Value} {base : Heap} {f : Addr} {fd : FuncData} (k_BadLot : MkErrK P w K mg base "BadLot" "at" "at") (k_TooMany : MkErrK P w K mg base "TooMany" "most" "most") (k_NoList : MkErrK P w K mg base "NoList" "name" "name") (k_BadBook : MkErrK P w K mg base "BadBook" "name" "name") (k_NoPerson : MkErrK P w K mg base "NoPerson" "person" "person") (k_NotSettled : MkErrK P w K mg base "NotSettled" "kind" "kind") (k_NoAnswer : MkErrK P w K mg base "NoAnswer" "answer" "answer") (k_BadText : MkErrK P w K mg base "BadText" "at" "at") (k_BadJournal : MkErrK P w K mg base "BadJournal" "at" "at") (tb_err : ErrTab K mg errT errN) (F : Fun K "_law_named" "_law_named" s_law_named f fd) (hm : mg "_law_named" = some (.ref f)) (hb : Binds K fd ["_law_worth_here"] []) :
    Cal P w K mg base 3 "_law_named" 1 m_law_named :=
  ⟨f, fd, ["_law_worth_here"], fnG_D F sc_law_named (by decide) (fun cdv A outer s0 H E hr hgd tk => d_law_named k_BadLot k_TooMany k_NoList k_BadBook k_NoPerson k_NotSettled k_NoAnswer k_BadText k_BadJournal tb_err cdv A outer s0 H E hr hgd tk), hm, F.kp, hb⟩
/-! ### _law_bare -/
abbrev s_law_bare : Stmt := top 36
def N_law_bare : List Str := ["_law_words", "_law_found"]
theorem sc_law_bare : FnScope N_law_bare ["_law_words"] (defScope s_law_bare) := ⟨rfl, rfl, rfl, by decide +kernel, rfl, by decide +kernel, by decide +kernel⟩
noncomputable def b_law_bare : DL.Env → SR :=
  (seqS (asgS 1 (mkOf mkLst (itOne (mkErr0D "BadEntry" (cp 0)) (itOne (mkErr0D "Same" (cp 0)) (itOne (mkErr0D "Unlike" (cp 0)) (itOne (mkErr0D "BadKind" (cp 0)) (itOne (mkErr0D "BadSet" (cp 0)) (itOne (mkErr0D "NotSingle" (cp 0)) itNil))))))))
  (seqS (asgS 1 (pureOp (lift2 addD) [.nm 1, .ex (mkOf mkLst (itOne (mkErr0D "BadRing" (cp 0)) (itOne (mkErr0D "BadNumber" (cp 0)) (itOne (mkErr0D "OtherFilled" (cp 0)) (itOne (mkErr0D "BadPlan" (cp 0)) (itOne (mkErr0D "BadSeen" (cp 0)) itNil))))))]))
  (retS (pureOp (lift2 addD) [.nm 1, .ex (mkOf mkLst (itOne (mkErr0D "BadView" (cp 0)) (itOne (mkErr0D "BadPerson" (cp 0)) (itOne (mkErr0D "NoEntry" (cp 0)) (itOne (mkErr0D "NothingDone" (cp 0)) itNil)))))]))))
noncomputable def m_law_bare : List D → FR := runD N_law_bare.length [0] b_law_bare
theorem d_law_bare {P : Program} {w : World} {K : PySem.W.Frag} {mg : Str → Option Value} {base : Heap} {qual : Str} {f : Addr} (z_NotSingle : Err0 K mg "NotSingle") (z_BadSet : Err0 K mg "BadSet") (z_BadKind : Err0 K mg "BadKind") (z_Unlike : Err0 K mg "Unlike") (z_Same : Err0 K mg "Same") (z_BadEntry : Err0 K mg "BadEntry") (z_BadSeen : Err0 K mg "BadSeen") (z_BadPlan : Err0 K mg "BadPlan") (z_OtherFilled : Err0 K mg "OtherFilled") (z_BadNumber : Err0 K mg "BadNumber") (z_BadRing : Err0 K mg "BadRing") (z_NothingDone : Err0 K mg "NothingDone") (z_NoEntry : Err0 K mg "NoEntry") (z_BadPerson : Err0 K mg "BadPerson") (z_BadView : Err0 K mg "BadView") (cdv : Value) (A : Around) (outer : List PySem.Env) (s0 : Shared) (H : Hp) (E : XK)
    (hr : Room 0 (inCx P w K mg base N_law_bare qual (defScope s_law_bare) f cdv A outer s0 H E).A) (hgd : (inCx P w K mg base N_law_bare qual (defScope s_law_bare) f cdv A outer s0 H E).A.guards = some []) (tk : Takes (inCx P w K mg base N_law_bare qual (defScope s_law_bare) f cdv A outer s0 H E) (fun c d _ H => E c d H)) :
    DSs (inCx P w K mg base N_law_bare qual (defScope s_law_bare) f cdv A outer s0 H E) (fun c d _ H => E c d H) [0] (defBody s_law_bare) b_law_bare := by
  have nd := sc_law_bare.nd
  have hu1 : (inCx P w K mg base N_law_bare qual (defScope s_law_bare) f cdv A outer s0 H E).A.units + 1 < cLine := by have := hr.un; omega
  have hu64 : (inCx P w K mg base N_law_bare qual (defScope s_law_bare) f cdv A outer s0 H E).A.units + 64 < cLine := by have := hr.un; omega
  have hu160 : (inCx P w K mg base N_law_bare qual (defScope s_law_bare) f cdv A outer s0 H E).A.units + 160 < cLine := by have := hr.un; omega
  have hu65 : (inCx P w K mg base N_law_bare qual (defScope s_law_bare) f cdv A outer s0 H E).A.units + 65 < cLine := by have := hr.un; omega
  have pass : PassesOwn (model P w) (inCx P w K mg base N_law_bare qual (defScope s_law_bare) f cdv A outer s0 H E).A (inCx P w K mg base N_law_bare qual (defScope s_law_bare) f cdv A outer s0 H E).env (inCx P w K mg base N_law_bare qual (defScope s_law_bare) f cdv A outer s0 H E).xe := PassesOwn.leaving
  exact (dss_cons (ds_set (i := 1) nd rfl (by first | exact Or.inl rfl | exact Or.inr rfl) (de_lst (da_one (de_err0 z_BadEntry (by rfl) (de_cp (pv 0))) (da_one (de_err0 z_Same (by rfl) (de_cp (pv 0))) (da_one (de_err0 z_Unlike (by rfl) (de_cp (pv 0))) (da_one (de_err0 z_BadKind (by rfl) (de_cp (pv 0))) (da_one (de_err0 z_BadSet (by rfl) (de_cp (pv 0))) (da_one (de_err0 z_NotSingle (by rfl) (de_cp (pv 0))) da_nil))))))) (by decide))
    (dss_cons (ds_set (i := 1) nd rfl (by first | exact Or.inl rfl | exact Or.inr rfl) (de_binD od_add (do_nm (pv 1)) (do_ex (de_lst (da_one (de_err0 z_BadRing (by rfl) (de_cp (pv 0))) (da_one (de_err0 z_BadNumber (by rfl) (de_cp (pv 0))) (da_one (de_err0 z_OtherFilled (by rfl) (de_cp (pv 0))) (da_one (de_err0 z_BadPlan (by rfl) (de_cp (pv 0))) (da_one (de_err0 z_BadSeen (by rfl) (de_cp (pv 0))) da_nil)))))))) (by decide))
    (dss_one (ds_ret (de_binD od_add (do_nm (pv 1)) (do_ex (de_lst (da_one (de_err0 z_BadView (by rfl) (de_cp (pv 0))) (da_one (de_err0 z_BadPerson (by rfl) (de_cp (pv 0))) (da_one (de_err0 z_NoEntry (by rfl) (de_cp (pv 0))) (da_one (de_err0 z_NothingDone (by rfl) (de_cp (pv 0))) da_nil)))))))))))
theorem k_law_bare {P : Program} {w : World} {K : PySem.W.Frag} {mg : Str → Option Value} {base : Heap} {f : Addr} {fd : FuncData} (z_NotSingle : Err0 K mg "NotSingle") (z_BadSet : Err0 K mg "BadSet") (z_BadKind : Err0 K mg "BadKind") (z_Unlike : Err0 K mg "Unlike") (z_Same : Err0 K mg "Same") (z_BadEntry : Err0 K mg "BadEntry") (z_BadSeen : Err0 K mg "BadSeen") (z_BadPlan : Err0 K mg "BadPlan") (z_OtherFilled : Err0 K mg "OtherFilled") (z_BadNumber : Err0 K mg "BadNumber") (z_BadRing : Err0 K mg "BadRing") (z_NothingDone : Err0 K mg "NothingDone") (z_NoEntry : Err0 K mg "NoEntry") (z_BadPerson : Err0 K mg "BadPerson") (z_BadView : Err0 K mg "BadView") (F : Fun K "_law_bare" "_law_bare" s_law_bare f fd) (hm : mg "_law_bare" = some (.ref f)) (hb : Binds K fd ["_law_words"] []) :
    Cal P w K mg base 1 "_law_bare" 1 m_law_bare :=
  ⟨f, fd, ["_law_words"], fnG_D F sc_law_bare (by decide) (fun cdv A outer s0 H E hr hgd tk => d_law_bare z_NotSingle z_BadSet z_BadKind z_Unlike z_Same z_BadEntry z_BadSeen z_BadPlan z_OtherFilled z_BadNumber z_BadRing z_NothingDone z_NoEntry z_BadPerson z_BadView cdv A outer s0 H E hr hgd tk), hm, F.kp, hb⟩
/-! ### law -/
abbrev slaw : Stmt := top 37
def Nlaw : List Str := ["_law_script", "_law_draw", "_law_turn", "_law_words", "_law_worth_here", "_law_errors", "_law_told", "_law_spot", "_law_error", "_law_bare_here", "_law_k"]
theorem sclaw : FnScope Nlaw ["_law_script"] (defScope slaw) := ⟨rfl, rfl, rfl, by decide +kernel, rfl, by decide +kernel, by decide +kernel⟩
noncomputable def blaw : DL.Env → SR :=
  (seqS (asgS 1 (callD m_law_begun [.nm 0]))
  (seqS (forS (srcR rngOf1 (itOne (qE (qOp (lift2 maxK) (qCons (qK (.int 2)) (qCons (qOp (lift2 minK) (qCons (qK (.int 8)) (qCons (qOp lenD (qCons (qN 0) qNil)) qNil))) qNil)))) itNil)) (tgN 2) (seqS (parS 3 4 (itOne (callD m_law_pick [.nm 1, .ex (qE (qOp dLst (qCons (qK (.str "a")) (qCons (qK (.str "")) (qCons (qK (.str "no such thing")) qNil)))))]) (itOne (callD m_law_worth [.nm 1]) itNil)))
  (seqS (asgG (tgT 2 (tgCons (tgN 5) (tgCons (tgN 6) tgNil))) (callD m_law_held [.nm 4]))
  (seqS (forS (srcEn (pureOp (lift2 addD) [.ex (callD m_law_bare [.nm 3]), .nm 5])) (tgT 2 (tgCons (tgN 7) (tgCons (tgN 8) tgNil))) (seqS (ifS (orB (tst (pureOp (lift2 neD) [.ex (callD m_law_flags [.nm 8]), .ex (compE (srcR rngOf1 (itOne (qE (qK (.int 24))) itNil)) (tgN 10) yesB (qE (qOp (lift2 eqD) (q2 (qN 10) (qN 7)))) [10])])) (notB (tst (qE (qOp (lift1 (isiD bt_ListError ct_ListError it_ListError)) (q1 (qN 8))))))) (retS (qE (qK (.bl false)))) nxS)
  (ifS (notB (tst (qE (qOp (lift1 (isiD bt_ValueError ct_ValueError it_ValueError)) (q1 (qN 8)))))) (retS (qE (qK (.bl false)))) nxS)))
  (ifS (orB (tstQ (qOp (lift2 neD) (q2 (qOp (lift1 reprK) (qCons (qN 6) qNil)) (qOp (lift1 reprK) (qCons (qOp (lift2 mulD) (q2 (qOp dLst (qCons (qN 4) qNil)) (qK (.int 9)))) qNil))))) (tst (pureOp (lift2 neD) [.ex (pureOp (lift1 reprK) [.ex (callD m_law_named [.nm 4])]), .ex (qE (qOp (lift1 reprK) (qCons (qOp (lift2 mulD) (q2 (qOp dLst (qCons (qN 4) qNil)) (qK (.int 9)))) qNil)))]))) (retS (qE (qK (.bl false)))) nxS)))))
  (seqS (asgS 9 (mkErr0D "ListError" (qE (qK (.str "a")))))
  (retS (andV (pureOp (lift2 niD) [.ex (qE (qK (.bl true))), .ex (callD m_law_flags [.nm 9])]) (qE (qOp (lift1 (isiD bt_ValueError ct_ValueError it_ValueError)) (q1 (qN 9)))))))))
noncomputable def mlaw : List D → FR := runD Nlaw.length [0] blaw
theorem dlaw {P : Program} {w : World} {K : PySem.W.Frag} {mg : Str → Option Value} {base : Heap} {qual : Str} {f : Addr} (o_ListError : IsOwn K mg "ListError" bt_ListError ct_ListError it_ListError) (ty_ValueError : IsTab K mg (.type "ValueError") bt_ValueError ct_ValueError it_ValueError) (z_ListError : Err0 K mg "ListError") (hS : ∀ h, K.In h → SysD h) (g_range : mg "range" = none) (g_isinstance : mg "isinstance" = none) (g_ValueError : mg "ValueError" = none) (g_enumerate : mg "enumerate" = none) (g_repr : mg "repr" = none) (g_len : mg "len" = none) (g_min : mg "min" = none) (g_max : mg "max" = none) (c_law_begun : Cal P w K mg base 1 "_law_begun" 1 m_law_begun) (c_law_worth : Cal P w K mg base 4 "_law_worth" 1 m_law_worth) (c_law_pick : Cal P w K mg base 3 "_law_pick" 2 m_law_pick) (c_law_held : Cal P w K mg base 3 "_law_held" 1 m_law_held) (c_law_flags : Cal P w K mg base 2 "_law_flags" 1 m_law_flags) (c_law_bare : Cal P w K mg base 1 "_law_bare" 1 m_law_bare) (c_law_named : Cal P w K mg base 3 "_law_named" 1 m_law_named) (cdv : Value) (A : Around) (outer : List PySem.Env) (s0 : Shared) (H : Hp) (E : XK)
    (hr : Room 4 (inCx P w K mg base Nlaw qual (defScope slaw) f cdv A outer s0 H E).A) (hgd : (inCx P w K mg base Nlaw qual (defScope slaw) f cdv A outer s0 H E).A.guards = some []) (tk : Takes (inCx P w K mg base Nlaw qual (defScope slaw) f cdv A outer s0 H E) (fun c d _ H => E c d H)) :
    DSs (inCx P w K mg base Nlaw qual (defScope slaw) f cdv A outer s0 H E) (fun c d _ H => E c d H) [0] (defBody slaw) blaw := by
  have nd := sclaw.nd
  have hu1 : (inCx P w K mg base Nlaw qual (defScope slaw) f cdv A outer s0 H E).A.units + 1 < cLine := by have := hr.un; omega
  have hu64 : (inCx P w K mg base Nlaw qual (defScope slaw) f cdv A outer s0 H E).A.units + 64 < cLine := by have := hr.un; omega
  have hu160 : (inCx P w K mg base Nlaw qual (defScope slaw) f cdv A outer s0 H E).A.units + 160 < cLine := by have := hr.un; omega
  have hu65 : (inCx P w K mg base Nlaw qual (defScope slaw) f cdv A outer s0 H E).A.units + 65 < cLine := by have := hr.un; omega
  have pass : PassesOwn (model P w) (inCx P w K mg base Nlaw qual (defScope slaw) f cdv A outer s0 H E).A (inCx P w K mg base Nlaw qual (defScope slaw) f cdv A outer s0 H E).env (inCx P w K mg base Nlaw qual (defScope slaw) f cdv A outer s0 H E).xe := PassesOwn.leaving
  exact (dss_cons (ds_set (i := 1) nd rfl (by first | exact Or.inl rfl | exact Or.inr rfl) (de_callG c_law_begun (hr.mono (by decide)) hgd tk (by rfl) (dos_cons (do_nm (pv 0)) dos_nil)) (by decide))
    (dss_cons (ds_for pass rfl (di_rng1 (by rfl) g_range (da_one (QF.de (qf_callB (cd_max rfl) (by rfl) g_max (by decide +kernel) (ql_cons (QF.toR qf_int) (ql_cons (QF.toR (qf_callB (cd_min rfl) (by rfl) g_min (by decide +kernel) (ql_cons (QF.toR qf_int) (ql_cons (QF.toR (qf_callB cd_len (by rfl) g_len (by decide +kernel) (ql_cons (qr_nm (pv 0)) ql_nil))) ql_nil)))) ql_nil)))) da_nil)) (pg_name (i := 2) nd rfl (by first | exact Or.inl rfl | exact Or.inr rfl)) (tg_name (by decide)) (dss_cons (ds_par (i := 3) (j := 4) rfl nd rfl rfl (by decide) rfl rfl (da_one (de_callG c_law_pick (hr.mono (by decide)) hgd tk (by rfl) (dos_cons (do_nm (pv 1)) (dos_cons (do_ex (QF.de (qf_lst (ql_cons (QF.toR qf_str) (ql_cons (QF.toR qf_str) (ql_cons (QF.toR qf_str) ql_nil)))))) dos_nil))) (da_one (de_callG c_law_worth (hr.mono (by decide)) hgd tk (by rfl) (dos_cons (do_nm (pv 1)) dos_nil)) da_nil)) (by decide) (by decide) (by rfl))
    (dss_cons (ds_asg (de_callG c_law_held (hr.mono (by decide)) hgd tk (by rfl) (dos_cons (do_nm (pv 4)) dos_nil)) (pg_tup rfl (pgs_cons (pg_name (i := 5) nd rfl (by first | exact Or.inl rfl | exact Or.inr rfl)) (pgs_cons (pg_name (i := 6) nd rfl (by first | exact Or.inl rfl | exact Or.inr rfl)) pgs_nil))) (tg_tup (tgs_cons (tg_name (by decide)) (tgs_cons (tg_name (by decide)) tgs_nil))))
    (dss_cons (ds_for pass rfl (di_enum (by rfl) g_enumerate (de_binD od_add (do_ex (de_callG c_law_bare (hr.mono (by decide)) hgd tk (by rfl) (dos_cons (do_nm (pv 3)) dos_nil))) (do_nm (pv 5)))) (pg_tup rfl (pgs_cons (pg_name (i := 7) nd rfl (by first | exact Or.inl rfl | exact Or.inr rfl)) (pgs_cons (pg_name (i := 8) nd rfl (by first | exact Or.inl rfl | exact Or.inr rfl)) pgs_nil))) (tg_tup (tgs_cons (tg_name (by decide)) (tgs_cons (tg_name (by decide)) tgs_nil))) (dss_cons (ds_if (dt_w (dw_or (dt_cmpD (od_ne hu64) (do_ex (de_callG c_law_flags (hr.mono (by decide)) hgd tk (by rfl) (dos_cons (do_nm (pv 8)) dos_nil))) (do_ex (de_lc (own := [("_law_k", 10)]) rfl nd (di_rng1 (by rfl) g_range (da_one (QF.de qf_int) da_nil)) (blkOk_by (by rfl)) (fun _ _ _ _ _ => (pg_name (i := 10) nd rfl (by first | exact Or.inl rfl | exact Or.inr rfl))) (fun kp hkp => tg_name (hkp 10 (by decide))) (fun _ _ _ _ _ => dts_nil) (fun _ _ _ _ _ => (QF.de (qf_cmp (od_eq hu64) (qr_nm (pv 10)) (qr_nm (pv 7)) (nomark _)))))) (nomark _)) (dw_or1 (dt_not (dt_val (QF.de (qf_isiO o_ListError (by rfl) g_isinstance (qr_nm (pv 8)) (by rfl)))))))) (dss_one (ds_ret (QF.de qf_bl))) dss_nil)
    (dss_one (ds_if (dt_not (dt_val (QF.de (qf_isiT ty_ValueError (by rfl) g_isinstance (qr_nm (pv 8)) (by rfl) g_ValueError (by decide +kernel))))) (dss_one (ds_ret (QF.de qf_bl))) dss_nil))))
    (dss_one (ds_if (dt_w (dw_or (dt_cmpQ (od_ne hu64) (QF.toR (qf_callB (cd_repr hgd hu160 hS) (by rfl) g_repr (by decide +kernel) (ql_cons (qr_nm (pv 6)) ql_nil))) (QF.toR (qf_callB (cd_repr hgd hu160 hS) (by rfl) g_repr (by decide +kernel) (ql_cons (QF.toR (qf_bin od_mul (QF.toR (qf_lst (ql_cons (qr_nm (pv 4)) ql_nil))) (QF.toR qf_int))) ql_nil))) (nomark _)) (dw_or1 (dt_cmpD (od_ne hu64) (do_ex (de_callBD (cd_repr hgd hu160 hS) (by rfl) g_repr (by decide +kernel) (dos_cons (do_ex (de_callG c_law_named (hr.mono (by decide)) hgd tk (by rfl) (dos_cons (do_nm (pv 4)) dos_nil))) dos_nil))) (do_ex (QF.de (qf_callB (cd_repr hgd hu160 hS) (by rfl) g_repr (by decide +kernel) (ql_cons (QF.toR (qf_bin od_mul (QF.toR (qf_lst (ql_cons (qr_nm (pv 4)) ql_nil))) (QF.toR qf_int))) ql_nil)))) (nomark _))))) (dss_one (ds_ret (QF.de qf_bl))) dss_nil))))))
    (dss_cons (ds_set (i := 9) nd rfl (by first | exact Or.inl rfl | exact Or.inr rfl) (de_err0 z_ListError (by rfl) (QF.de qf_str)) (by decide))
    (dss_one (ds_ret (de_and (de_cmpD (od_ni hu65) (do_ex (QF.de qf_bl)) (do_ex (de_callG c_law_flags (hr.mono (by decide)) hgd tk (by rfl) (dos_cons (do_nm (pv 9)) dos_nil))) (by with_unfolding_all rfl)) (de_one (QF.de (qf_isiT ty_ValueError (by rfl) g_isinstance (qr_nm (pv 9)) (by rfl) g_ValueError (by decide +kernel))))))))))
theorem klaw {P : Program} {w : World} {K : PySem.W.Frag} {mg : Str → Option Value} {base : Heap} {f : Addr} {fd : FuncData} (o_ListError : IsOwn K mg "ListError" bt_ListError ct_ListError it_ListError) (ty_ValueError : IsTab K mg (.type "ValueError") bt_ValueError ct_ValueError it_ValueError) (z_ListError : Err0 K mg "ListError") (hS : ∀ h, K.In h → SysD h) (g_range : mg "range" = none) (g_isinstance : mg "isinstance" = none) (g_ValueError : mg "ValueError" = none) (g_enumerate : mg "enumerate" = none) (g_repr : mg "repr" = none) (g_len : mg "len" = none) (g_min : mg "min" = none) (g_max : mg "max" = none) (c_law_begun : Cal P w K mg base 1 "_law_begun" 1 m_law_begun) (c_law_worth : Cal P w K mg base 4 "_law_worth" 1 m_law_worth) (c_law_pick : Cal P w K mg base 3 "_law_pick" 2 m_law_pick) (c_law_held : Cal P w K mg base 3 "_law_held" 1 m_law_held) (c_law_flags : Cal P w K mg base 2 "_law_flags" 1 m_law_flags) (c_law_bare : Cal P w K mg base 1 "_law_bare" 1 m_law_bare) (c_law_named : Cal P w K mg base 3 "_law_named" 1 m_law_named) (F : Fun K "law" "law" slaw f fd) (hm : mg "law" = some (.ref f)) (hb : Binds K fd ["_law_script"] []) :
    Cal P w K mg base 5 "law" 1 mlaw :=
  ⟨f, fd, ["_law_script"], fnG_D F sclaw (by decide) (fun cdv A outer s0 H E hr hgd tk => dlaw o_ListError ty_ValueError z_ListError hS g_range g_isinstance g_ValueError g_enumerate g_repr g_len g_min g_max c_law_begun c_law_worth c_law_pick c_law_held c_law_flags c_law_bare c_law_named cdv A outer s0 H E hr hgd tk), hm, F.kp, hb⟩
theorem glaw {P : Program} {w : World} {K : PySem.W.Frag} {mg : Str → Option Value} {base : Heap} {f : Addr} {fd : FuncData} (o_ListError : IsOwn K mg "ListError" bt_ListError ct_ListError it_ListError) (ty_ValueError : IsTab K mg (.type "ValueError") bt_ValueError ct_ValueError it_ValueError) (z_ListError : Err0 K mg "ListError") (hS : ∀ h, K.In h → SysD h) (g_range : mg "range" = none) (g_isinstance : mg "isinstance" = none) (g_ValueError : mg "ValueError" = none) (g_enumerate : mg "enumerate" = none) (g_repr : mg "repr" = none) (g_len : mg "len" = none) (g_min : mg "min" = none) (g_max : mg "max" = none) (c_law_begun : Cal P w K mg base 1 "_law_begun" 1 m_law_begun) (c_law_worth : Cal P w K mg base 4 "_law_worth" 1 m_law_worth) (c_law_pick : Cal P w K mg base 3 "_law_pick" 2 m_law_pick) (c_law_held : Cal P w K mg base 3 "_law_held" 1 m_law_held) (c_law_flags : Cal P w K mg base 2 "_law_flags" 1 m_law_flags) (c_law_bare : Cal P w K mg base 1 "_law_bare" 1 m_law_bare) (c_law_named : Cal P w K mg base 3 "_law_named" 1 m_law_named) (F : Fun K "law" "law" slaw f fd) :
    FnG P w K mg base 5 f fd 1 ["_law_script"] (spN ⟨P, w, K, mg⟩ 1 mlaw) :=
  fnG_D F sclaw (by decide) (fun cdv A outer s0 H E hr hgd tk => dlaw o_ListError ty_ValueError z_ListError hS g_range g_isinstance g_ValueError g_enumerate g_repr g_len g_min g_max c_law_begun c_law_worth c_law_pick c_law_held c_law_flags c_law_bare c_law_named cdv A outer s0 H E hr hgd tk)
end K1

set_option Elab.async false
set_option linter.all false
set_option maxRecDepth 100000
set_option maxHeartbeats 400000
/-! M1: k01: what the law's defs mean at each input. -/
namespace K1
open PySem PySem.Spec PyProof.Rows L2 DL
theorem e_begun : m_law_begun = mBegun := rfl
theorem e_mixed : m_law_mixed = mMixed := rfl
theorem e_take : m_law_take = mTake := rfl
theorem e_pick : m_law_pick = mPick := rfl
def worths : List D := [.non, .bl true, .int 0, .int (-7), .int (10 ^ 60), .str "", .str "in", .str "a b", .lst false [], .lst false [.str "in"], .tup [], .tup [.str "in", .tup []], .dic false [], .dic false [(.inl (.inr "a"), .int 1)], .lst false [.lst false [.tup []]], .bl false]
theorem worths_solid : ∀ x ∈ worths, solid x = true := by
  have h : (worths.all solid) = true := by decide +kernel
  exact fun x m => List.all_eq_true.mp h x m
def wordsL : List D := [.str "a", .str "", .str "no such thing"]
theorem words_solid : ∀ x ∈ wordsL, solid x = true := by
  have h : (wordsL.all solid) = true := by decide +kernel
  exact fun x m => List.all_eq_true.mp h x m
theorem worth_ok {l c : List Int} {r t : Int} {u : Bool} {n : Nat} (h : DrS n l r c t) (hn : n < 2 ^ 59) :
    ∃ (x : D) (l2 : List Int) (r2 : Int) (u2 : Bool) (t2 : Int), m_law_worth [dr l r u c t] = .ok x [some (dr l2 r2 u2 c t2)] ∧ x ∈ worths ∧ DrS (n + 1) l2 r2 c t2 := by
  obtain ⟨x, l2, r2, u2, t2, e, hx, ok⟩ := pick_ok (u := u) (v := true) (xs := worths) h hn (by decide) (by decide) worths_solid
  refine ⟨x, l2, r2, u2, t2, ?_, hx, ok⟩
  have e1 : ∀ d : D, b_law_worth [some d, none] = retS (callD m_law_pick [.nm 0, .nm 1]) [some d, some (.lst true worths)] := fun d => by kernel_rfl
  show (match b_law_worth [some (dr l r u c t), none] with
    | .nx ρ => FR.ok .non (outsOf [0] 0 [dr l r u c t] ρ)
    | .rt d ρ => .ok d (outsOf [0] 0 [dr l r u c t] ρ)
    | .err e ρ => .err e (outsOf [0] 0 [dr l r u c t] ρ)
    | _ => .stuck) = _
  rw [e1]
  have sw : solid (.lst true worths) = false := rfl
  have c1 : callD m_law_pick [.nm 0, .nm 1] [some (dr l r u c t), some (.lst true worths)] = .ok x [some (dr l2 r2 u2 c t2), some (.lst true worths)] := by
    unfold callD
    simp only [evalT, List.getElem?_cons_succ, List.getElem?_cons_zero, Res.bind_ok, takeO, dr_solid, sw, Bool.false_eq_true, if_false, List.set_cons_zero, List.set_cons_succ]
    rw [e_pick, e]
    simp [putO, dr_solid, sw]
  simp only [retS, c1, bindS]
  simp [outsOf, dr_solid]
/-- a list of 24 answers, of which the i-th is True -/
def hot (i : Nat) : List D := (List.range 24).map fun k => .bl (k == i)

theorem fl_BadEntry (fs : List (Str × D)) : m_law_flags [.exc "BadEntry" fs] = .ok (.lst true (hot 0)) [none] := by kernel_rfl
theorem fl_Same (fs : List (Str × D)) : m_law_flags [.exc "Same" fs] = .ok (.lst true (hot 1)) [none] := by kernel_rfl
theorem fl_Unlike (fs : List (Str × D)) : m_law_flags [.exc "Unlike" fs] = .ok (.lst true (hot 2)) [none] := by kernel_rfl
theorem fl_BadKind (fs : List (Str × D)) : m_law_flags [.exc "BadKind" fs] = .ok (.lst true (hot 3)) [none] := by kernel_rfl
theorem fl_BadSet (fs : List (Str × D)) : m_law_flags [.exc "BadSet" fs] = .ok (.lst true (hot 4)) [none] := by kernel_rfl
theorem fl_NotSingle (fs : List (Str × D)) : m_law_flags [.exc "NotSingle" fs] = .ok (.lst true (hot 5)) [none] := by kernel_rfl
theorem fl_BadRing (fs : List (Str × D)) : m_law_flags [.exc "BadRing" fs] = .ok (.lst true (hot 6)) [none] := by kernel_rfl
theorem fl_BadNumber (fs : List (Str × D)) : m_law_flags [.exc "BadNumber" fs] = .ok (.lst true (hot 7)) [none] := by kernel_rfl
theorem fl_OtherFilled (fs : List (Str × D)) : m_law_flags [.exc "OtherFilled" fs] = .ok (.lst true (hot 8)) [none] := by kernel_rfl
theorem fl_BadPlan (fs : List (Str × D)) : m_law_flags [.exc "BadPlan" fs] = .ok (.lst true (hot 9)) [none] := by kernel_rfl
theorem fl_BadSeen (fs : List (Str × D)) : m_law_flags [.exc "BadSeen" fs] = .ok (.lst true (hot 10)) [none] := by kernel_rfl
theorem fl_BadView (fs : List (Str × D)) : m_law_flags [.exc "BadView" fs] = .ok (.lst true (hot 11)) [none] := by kernel_rfl
theorem fl_BadPerson (fs : List (Str × D)) : m_law_flags [.exc "BadPerson" fs] = .ok (.lst true (hot 12)) [none] := by kernel_rfl
theorem fl_NoEntry (fs : List (Str × D)) : m_law_flags [.exc "NoEntry" fs] = .ok (.lst true (hot 13)) [none] := by kernel_rfl
theorem fl_NothingDone (fs : List (Str × D)) : m_law_flags [.exc "NothingDone" fs] = .ok (.lst true (hot 14)) [none] := by kernel_rfl
theorem fl_BadBook (fs : List (Str × D)) : m_law_flags [.exc "BadBook" fs] = .ok (.lst true (hot 15)) [none] := by kernel_rfl
theorem fl_NoList (fs : List (Str × D)) : m_law_flags [.exc "NoList" fs] = .ok (.lst true (hot 16)) [none] := by kernel_rfl
theorem fl_TooMany (fs : List (Str × D)) : m_law_flags [.exc "TooMany" fs] = .ok (.lst true (hot 17)) [none] := by kernel_rfl
theorem fl_BadLot (fs : List (Str × D)) : m_law_flags [.exc "BadLot" fs] = .ok (.lst true (hot 18)) [none] := by kernel_rfl
theorem fl_NoAnswer (fs : List (Str × D)) : m_law_flags [.exc "NoAnswer" fs] = .ok (.lst true (hot 19)) [none] := by kernel_rfl
theorem fl_NotSettled (fs : List (Str × D)) : m_law_flags [.exc "NotSettled" fs] = .ok (.lst true (hot 20)) [none] := by kernel_rfl
theorem fl_NoPerson (fs : List (Str × D)) : m_law_flags [.exc "NoPerson" fs] = .ok (.lst true (hot 21)) [none] := by kernel_rfl
theorem fl_BadJournal (fs : List (Str × D)) : m_law_flags [.exc "BadJournal" fs] = .ok (.lst true (hot 22)) [none] := by kernel_rfl
theorem fl_BadText (fs : List (Str × D)) : m_law_flags [.exc "BadText" fs] = .ok (.lst true (hot 23)) [none] := by kernel_rfl
theorem fl_ListError (fs : List (Str × D)) : m_law_flags [.exc "ListError" fs] = .ok (.lst true (hot 24)) [none] := by kernel_rfl
def bares : List D := [.exc "BadEntry" [], .exc "Same" [], .exc "Unlike" [], .exc "BadKind" [], .exc "BadSet" [], .exc "NotSingle" [], .exc "BadRing" [], .exc "BadNumber" [], .exc "OtherFilled" [], .exc "BadPlan" [], .exc "BadSeen" [], .exc "BadView" [], .exc "BadPerson" [], .exc "NoEntry" [], .exc "NothingDone" []]
def errs (x : D) : List D := [.exc "BadBook" [("name", x)], .exc "NoList" [("name", x)], .exc "TooMany" [("most", x)], .exc "BadLot" [("at", x)], .exc "NoAnswer" [("answer", x)], .exc "NotSettled" [("kind", x)], .exc "NoPerson" [("person", x)], .exc "BadJournal" [("at", x)], .exc "BadText" [("at", x)]]
theorem bare_ok (x : D) (h : x ∈ wordsL) : m_law_bare [x] = .ok (.lst true bares) [none] := by
  simp only [wordsL, List.mem_cons, List.not_mem_nil, or_false] at h
  rcases h with rfl | rfl | rfl <;> kernel_rfl
theorem held_ok (x : D) (h : x ∈ worths) : m_law_held [x] = .ok (.tup [.lst false (errs x), .lst true (List.replicate 9 x)]) [none] := by
  simp only [worths, List.mem_cons, List.not_mem_nil, or_false] at h
  rcases h with rfl | rfl | rfl | rfl | rfl | rfl | rfl | rfl | rfl | rfl | rfl | rfl | rfl | rfl | rfl | rfl <;> kernel_rfl
theorem named_ok (x : D) (h : x ∈ worths) : m_law_named [x] = .ok (.lst true (List.replicate 9 x)) [none] := by
  simp only [worths, List.mem_cons, List.not_mem_nil, or_false] at h
  rcases h with rfl | rfl | rfl | rfl | rfl | rfl | rfl | rfl | rfl | rfl | rfl | rfl | rfl | rfl | rfl | rfl <;> kernel_rfl
def isStr : Option D → Bool
  | some (.str _) => true
  | _ => false
theorem isStr_ok {o : Option D} (h : isStr o = true) : ∃ s, o = some (.str s) := by
  unfold isStr at h
  split at h
  · exact ⟨_, rfl⟩
  · cases h
theorem repr_ok (x : D) (h : x ∈ worths) : ∃ s, reprK (.lst true (List.replicate 9 x)) = some (.str s) := by
  refine isStr_ok ?_
  simp only [worths, List.mem_cons, List.not_mem_nil, or_false] at h
  rcases h with rfl | rfl | rfl | rfl | rfl | rfl | rfl | rfl | rfl | rfl | rfl | rfl | rfl | rfl | rfl | rfl <;> kernel_rfl
/-! ### one round of the law -/
noncomputable def bTest : DL.Env → SR := (seqS (ifS (orB (tst (pureOp (lift2 neD) [.ex (callD m_law_flags [.nm 8]), .ex (compE (srcR rngOf1 (itOne (qE (qK (.int 24))) itNil)) (tgN 10) yesB (qE (qOp (lift2 eqD) (q2 (qN 10) (qN 7)))) [10])])) (notB (tst (qE (qOp (lift1 (isiD bt_ListError ct_ListError it_ListError)) (q1 (qN 8))))))) (retS (qE (qK (.bl false)))) nxS)
  (ifS (notB (tst (qE (qOp (lift1 (isiD bt_ValueError ct_ValueError it_ValueError)) (q1 (qN 8)))))) (retS (qE (qK (.bl false)))) nxS))
noncomputable def bInner : DL.Env → SR := (forS (srcEn (pureOp (lift2 addD) [.ex (callD m_law_bare [.nm 3]), .nm 5])) (tgT 2 (tgCons (tgN 7) (tgCons (tgN 8) tgNil))) bTest)
noncomputable def bRepr : DL.Env → SR := (ifS (orB (tstQ (qOp (lift2 neD) (q2 (qOp (lift1 reprK) (qCons (qN 6) qNil)) (qOp (lift1 reprK) (qCons (qOp (lift2 mulD) (q2 (qOp dLst (qCons (qN 4) qNil)) (qK (.int 9)))) qNil))))) (tst (pureOp (lift2 neD) [.ex (pureOp (lift1 reprK) [.ex (callD m_law_named [.nm 4])]), .ex (qE (qOp (lift1 reprK) (qCons (qOp (lift2 mulD) (q2 (qOp dLst (qCons (qN 4) qNil)) (qK (.int 9)))) qNil)))]))) (retS (qE (qK (.bl false)))) nxS)
noncomputable def bRound : DL.Env → SR := (seqS (parS 3 4 (itOne (callD m_law_pick [.nm 1, .ex (qE (qOp dLst (qCons (qK (.str "a")) (qCons (qK (.str "")) (qCons (qK (.str "no such thing")) qNil)))))]) (itOne (callD m_law_worth [.nm 1]) itNil)))
  (seqS (asgG (tgT 2 (tgCons (tgN 5) (tgCons (tgN 6) tgNil))) (callD m_law_held [.nm 4]))
  (seqS bInner bRepr)))
noncomputable def bEnd : DL.Env → SR := (seqS (asgS 9 (mkErr0D "ListError" (qE (qK (.str "a")))))
  (retS (andV (pureOp (lift2 niD) [.ex (qE (qK (.bl true))), .ex (callD m_law_flags [.nm 9])]) (qE (qOp (lift1 (isiD bt_ValueError ct_ValueError it_ValueError)) (q1 (qN 9)))))))
theorem blaw_eq : blaw = seqS (asgS 1 (callD m_law_begun [.nm 0]))
  (seqS (forS (srcR rngOf1 (itOne (qE (qOp (lift2 maxK) (qCons (qK (.int 2)) (qCons (qOp (lift2 minK) (qCons (qK (.int 8)) (qCons (qOp lenD (qCons (qN 0) qNil)) qNil))) qNil)))) itNil)) (tgN 2) bRound) bEnd) := by kernel_rfl
section
variable {s d w x : D} {x2 x3 x4 x5 x6 x7 x8 x9 : Option D}
/-- one error, one test -/
theorem test_ok {e : D} {i : Nat} (hi : (i, e) ∈ ((bares ++ errs x).zipIdx.map fun p => (p.2, p.1))) :
    bTest [some s, some d, x2, x3, x4, x5, x6, some (.int i), some e, x9, none] = .nx [some s, some d, x2, x3, x4, x5, x6, some (.int i), some e, x9, none] := by
  simp only [bares, errs, List.cons_append, List.nil_append, List.zipIdx_cons, List.zipIdx_nil, List.map_cons, List.map_nil, List.mem_cons, List.not_mem_nil, or_false, Prod.mk.injEq] at hi
  rcases hi with ⟨rfl, rfl⟩ | ⟨rfl, rfl⟩ | ⟨rfl, rfl⟩ | ⟨rfl, rfl⟩ | ⟨rfl, rfl⟩ | ⟨rfl, rfl⟩ | ⟨rfl, rfl⟩ | ⟨rfl, rfl⟩ | ⟨rfl, rfl⟩ | ⟨rfl, rfl⟩ | ⟨rfl, rfl⟩ | ⟨rfl, rfl⟩ | ⟨rfl, rfl⟩ | ⟨rfl, rfl⟩ | ⟨rfl, rfl⟩ | ⟨rfl, rfl⟩ | ⟨rfl, rfl⟩ | ⟨rfl, rfl⟩ | ⟨rfl, rfl⟩ | ⟨rfl, rfl⟩ | ⟨rfl, rfl⟩ | ⟨rfl, rfl⟩ | ⟨rfl, rfl⟩ | ⟨rfl, rfl⟩ <;>
  kernel_rfl
end
end K1

set_option Elab.async false
set_option linter.all false
set_option maxRecDepth 100000
set_option maxHeartbeats 400000
/-! N1: k01: the rounds. -/
namespace K1
open PySem PySem.Spec PyProof.Rows L2 DL
section
variable {s d w x : D} {x2 x3 x4 x5 x6 x7 x8 x9 : Option D}
/-- a walk that keeps what holds -/
theorem forL_inv {tg : D → DL.Env → Option DL.Env} {b : DL.Env → SR} (I : DL.Env → Prop) : ∀ its : List D, (∀ e ∈ its, ∀ ρ, I ρ → ∃ ρ1 ρ2, tg e ρ = some ρ1 ∧ b ρ1 = .nx ρ2 ∧ I ρ2) → ∀ ρ, I ρ → ∃ ρ2, forL tg b its ρ = .nx ρ2 ∧ I ρ2
  | [], _, ρ, i => ⟨ρ, rfl, i⟩
  | e :: its, h, ρ, i => by
    obtain ⟨ρ1, ρ2, h1, h2, i2⟩ := h e List.mem_cons_self ρ i
    obtain ⟨ρ3, h3, i3⟩ := forL_inv I its (fun e m => h e (List.mem_cons_of_mem _ m)) ρ2 i2
    refine ⟨ρ3, ?_, i3⟩
    unfold forL
    rw [h1]
    simp only [h2, loopR]
    exact h3
theorem cat_ok : addD (.lst true bares) (.lst false (errs x)) = some (.lst true (bares ++ errs x)) := by kernel_rfl
theorem en_ok : enD (.lst true (bares ++ errs x)) = some (enumL (bares ++ errs x)) := by kernel_rfl
theorem src_ok (hw : w ∈ wordsL) {ρ : DL.Env} (h3 : ρ[3]? = some (some w)) (h5 : ρ[5]? = some (some (.lst false (errs x)))) : srcEn (pureOp (lift2 addD) [.ex (callD m_law_bare [.nm 3]), .nm 5]) ρ = .ok (enumL (bares ++ errs x)) ρ := by
  have sw := words_solid w hw
  have c1 : callD m_law_bare [.nm 3] ρ = .ok (.lst true bares) ρ := by
    unfold callD
    simp only [evalT, h3, Res.bind_ok, takeO, sw, if_true, bare_ok w hw, putO]
  simp only [srcEn, pureOp, evalO, evalT, c1, Res.bind_ok, h5, fillO, lift2, cat_ok, en_ok]
theorem tg_ok {i e : D} {x0 x1 x2 x3 x4 x5 x6 x7 x8 x9 x10 : Option D} : tgT 2 (tgCons (tgN 7) (tgCons (tgN 8) tgNil)) (.tup [i, e]) [x0, x1, x2, x3, x4, x5, x6, x7, x8, x9, x10] = some [x0, x1, x2, x3, x4, x5, x6, some i, some e, x9, x10] := by kernel_rfl
theorem walk_ok (its : List D) (h : ∀ e ∈ its, ∃ p ∈ (bares ++ errs x).zipIdx, e = .tup [.int (p.2 : Nat), p.1]) : ∀ x7 x8, ∃ y7 y8, forL (tgT 2 (tgCons (tgN 7) (tgCons (tgN 8) tgNil))) bTest its [some s, some d, x2, x3, x4, x5, x6, x7, x8, x9, none] = .nx [some s, some d, x2, x3, x4, x5, x6, y7, y8, x9, none] := by
  induction its with
  | nil => exact fun x7 x8 => ⟨x7, x8, by kernel_rfl⟩
  | cons e its ih =>
    intro x7 x8
    obtain ⟨p, hp, rfl⟩ := h e List.mem_cons_self
    obtain ⟨y7, y8, e2⟩ := ih (fun e m => h e (List.mem_cons_of_mem _ m)) (some (.int (p.2 : Nat))) (some p.1)
    refine ⟨y7, y8, ?_⟩
    rw [forL_nx tg_ok (test_ok (s := s) (d := d) (x := x) (x2 := x2) (x3 := x3) (x4 := x4) (x5 := x5) (x6 := x6) (x9 := x9) (i := (p.2 : Nat)) (e := p.1) (List.mem_map.mpr ⟨p, hp, rfl⟩))]
    exact e2
theorem inner_ok (hw : w ∈ wordsL) : ∃ y7 y8, bInner [some s, some d, x2, some w, x4, some (.lst false (errs x)), x6, x7, x8, x9, none] = .nx [some s, some d, x2, some w, x4, some (.lst false (errs x)), x6, y7, y8, x9, none] := by
  obtain ⟨y7, y8, e⟩ := walk_ok (s := s) (d := d) (x := x) (x2 := x2) (x3 := some w) (x4 := x4) (x5 := some (.lst false (errs x))) (x6 := x6) (x9 := x9) (enumL (bares ++ errs x)) (fun e m => by
    obtain ⟨p, hp, rfl⟩ := List.mem_map.mp m
    exact ⟨p, hp, rfl⟩) x7 x8
  refine ⟨y7, y8, ?_⟩
  unfold bInner
  rw [forS_ok (src_ok (x := x) hw rfl rfl)]
  exact e
theorem reprs_ok (hx : x ∈ worths) : bRepr [some s, some d, x2, x3, some x, x5, some (.lst true (List.replicate 9 x)), x7, x8, x9, none] = .nx [some s, some d, x2, x3, some x, x5, some (.lst true (List.replicate 9 x)), x7, x8, x9, none] := by
  obtain ⟨z, hz⟩ := repr_ok x hx
  have sx := worths_solid x hx
  have m1 : qOp dLst (qCons (qN 4) qNil) [some s, some d, x2, x3, some x, x5, some (.lst true (List.replicate 9 x)), x7, x8, x9, none] = some (.lst true [x]) := by
    have h1 : (1 : Nat) ≤ sizeLine := by decide +kernel
    simp [qOp, qCons, qNil, qN, dLst, solids, sx, h1]
  have m2 : mulD (.lst true [x]) (.int 9) = some (.lst true (List.replicate 9 x)) := by
    have h1 : (9 : Nat) ≤ sizeLine := by decide +kernel
    have e : repL (.lst true [x]) (.int 9) = some (.lst true (List.replicate 9 x)) := by
      simp [repL, solids, sx, h1]
    show repL (.lst true [x]) (.int 9) = _
    exact e
  have q : (eqSc (.str z) (.str z)).map (fun c => D.bl (!c)) = some (.bl false) := by simp [eqSc]
  have n1 : neD (.str z) (.str z) = some (.bl false) := by
    show (match (eqSc (.str z) (.str z)).map (fun c => D.bl (!c)) with
      | some d => some d
      | none => (eqPy (.str z) (.str z)).map fun c => D.bl (!c)) = _
    rw [q]
  have c1 : callD m_law_named [.nm 4] [some s, some d, x2, x3, some x, x5, some (.lst true (List.replicate 9 x)), x7, x8, x9, none] = .ok (.lst true (List.replicate 9 x)) [some s, some d, x2, x3, some x, x5, some (.lst true (List.replicate 9 x)), x7, x8, x9, none] := by
    unfold callD
    simp only [evalT, List.getElem?_cons_succ, List.getElem?_cons_zero, Res.bind_ok, takeO, sx, if_true, named_ok x hx, putO]
  have r1 : qOp (lift1 reprK) (qCons (qOp (lift2 mulD) (q2 (qOp dLst (qCons (qN 4) qNil)) (qK (.int 9)))) qNil) [some s, some d, x2, x3, some x, x5, some (.lst true (List.replicate 9 x)), x7, x8, x9, none] = some (.str z) := by
    simp only [q2] at *
    rw [show qOp (lift1 reprK) (qCons (qOp (lift2 mulD) (qCons (qOp dLst (qCons (qN 4) qNil)) (qCons (qK (.int 9)) qNil))) qNil) = fun ρ => qOp (lift1 reprK) (qCons (qOp (lift2 mulD) (qCons (qOp dLst (qCons (qN 4) qNil)) (qCons (qK (.int 9)) qNil))) qNil) ρ from rfl]
    unfold qOp qCons qNil at m1 ⊢
    simp only [m1, qK, lift2, m2, lift1, hz]
  have r2 : qOp (lift1 reprK) (qCons (qN 6) qNil) [some s, some d, x2, x3, some x, x5, some (.lst true (List.replicate 9 x)), x7, x8, x9, none] = some (.str z) := by
    simp only [qOp, qCons, qNil, qN, lift1, List.getElem?_cons_succ, List.getElem?_cons_zero, hz]
  have t1 : ∀ {qa qb : DL.Env → Option D} {ρ : DL.Env}, qa ρ = some (.str z) → qb ρ = some (.str z) → tstQ (qOp (lift2 neD) (q2 qa qb)) ρ = .ok false ρ := fun ha hb => by
    simp only [tstQ, tst, qE, qOp, q2, qCons, qNil, ha, hb, lift2, n1, Res.bind_ok, isBl]
  unfold bRepr ifS orB
  rw [t1 r2 r1]
  simp only [Res.bind_ok, tst, pureOp, evalO, evalT, c1, fillO, lift1, hz, qE, r1, lift2, n1, isBl, bindS, Bool.false_eq_true, if_false, nxS]
end
theorem round_ok {s : D} {l c : List Int} {r t : Int} {u : Bool} {n : Nat} {x2 x3 x4 x5 x6 x7 x8 x9 : Option D} (h : DrS n l r c t) (hn : n < 1000) :
    ∃ l2 r2 u2 t2 y3 y4 y5 y6 y7 y8, DrS (n + 2) l2 r2 c t2 ∧ bRound [some s, some (dr l r u c t), x2, x3, x4, x5, x6, x7, x8, x9, none] = .nx [some s, some (dr l2 r2 u2 c t2), x2, y3, y4, y5, y6, y7, y8, x9, none] := by
  obtain ⟨w, l1, r1, u1, t1, e1, hw, ok1⟩ := pick_ok (u := u) (v := true) (xs := wordsL) h (Nat.lt_trans hn (by decide)) (by decide) (by decide) words_solid
  obtain ⟨x, l2, r2, u2, t2, e2, hx, ok2⟩ := worth_ok (u := u1) ok1 (Nat.lt_of_lt_of_le (Nat.add_lt_add_right hn 1) (by decide))
  have sx := worths_solid x hx
  have p1 : parS 3 4 (itOne (callD m_law_pick [.nm 1, .ex (qE (qOp dLst (qCons (qK (.str "a")) (qCons (qK (.str "")) (qCons (qK (.str "no such thing")) qNil)))))]) (itOne (callD m_law_worth [.nm 1]) itNil)) [some s, some (dr l r u c t), x2, x3, x4, x5, x6, x7, x8, x9, none] =
      .nx [some s, some (dr l2 r2 u2 c t2), x2, some w, some x, x5, x6, x7, x8, x9, none] := by
    have q : ∀ ρ : DL.Env, qE (qOp dLst (qCons (qK (.str "a")) (qCons (qK (.str "")) (qCons (qK (.str "no such thing")) qNil)))) ρ = .ok (.lst true wordsL) ρ := fun ρ => by kernel_rfl
    have sw : solid (.lst true wordsL) = false := rfl
    have c1 : callD m_law_pick [.nm 1, .ex (qE (qOp dLst (qCons (qK (.str "a")) (qCons (qK (.str "")) (qCons (qK (.str "no such thing")) qNil)))))] [some s, some (dr l r u c t), x2, x3, x4, x5, x6, x7, x8, x9, none] = .ok w [some s, some (dr l1 r1 u1 c t1), x2, x3, x4, x5, x6, x7, x8, x9, none] := by
      unfold callD
      simp only [evalT, List.getElem?_cons_succ, List.getElem?_cons_zero, Res.bind_ok, q, takeO, dr_solid, Bool.false_eq_true, if_false, List.set_cons_zero, List.set_cons_succ, e_pick, e1]
      simp [putO, dr_solid, sw]
    have c2 : callD m_law_worth [.nm 1] [some s, some (dr l1 r1 u1 c t1), x2, x3, x4, x5, x6, x7, x8, x9, none] = .ok x [some s, some (dr l2 r2 u2 c t2), x2, x3, x4, x5, x6, x7, x8, x9, none] := by
      unfold callD
      simp only [evalT, List.getElem?_cons_succ, List.getElem?_cons_zero, Res.bind_ok, takeO, dr_solid, Bool.false_eq_true, if_false, List.set_cons_zero, List.set_cons_succ, e2]
      simp [putO, dr_solid]
    simp only [parS, itOne, c1, Res.bind_ok, c2, itNil, bindS, List.set_cons_succ, List.set_cons_zero]
  have p2 : asgG (tgT 2 (tgCons (tgN 5) (tgCons (tgN 6) tgNil))) (callD m_law_held [.nm 4]) [some s, some (dr l2 r2 u2 c t2), x2, some w, some x, x5, x6, x7, x8, x9, none] = .nx [some s, some (dr l2 r2 u2 c t2), x2, some w, some x, some (.lst false (errs x)), some (.lst true (List.replicate 9 x)), x7, x8, x9, none] := by
    have c1 : callD m_law_held [.nm 4] [some s, some (dr l2 r2 u2 c t2), x2, some w, some x, x5, x6, x7, x8, x9, none] = .ok (.tup [.lst false (errs x), .lst true (List.replicate 9 x)]) [some s, some (dr l2 r2 u2 c t2), x2, some w, some x, x5, x6, x7, x8, x9, none] := by
      unfold callD
      simp only [evalT, List.getElem?_cons_succ, List.getElem?_cons_zero, Res.bind_ok, takeO, sx, if_true, held_ok x hx, putO]
    unfold asgG
    rw [c1]
    rfl
  obtain ⟨y7, y8, p3⟩ := inner_ok (s := s) (d := dr l2 r2 u2 c t2) (w := w) (x := x) (x2 := x2) (x4 := some x) (x6 := some (.lst true (List.replicate 9 x))) (x7 := x7) (x8 := x8) (x9 := x9) hw
  refine ⟨l2, r2, u2, t2, some w, some x, some (.lst false (errs x)), some (.lst true (List.replicate 9 x)), y7, y8, ok2, ?_⟩
  unfold bRound
  rw [seqS_nx p1, seqS_nx p2, seqS_nx p3]
  exact reprs_ok hx
theorem end_ok {s : D} {d : Option D} {x2 x3 x4 x5 x6 x7 x8 x9 : Option D} : ∃ ρ, bEnd [some s, d, x2, x3, x4, x5, x6, x7, x8, x9, none] = .rt (.bl true) ρ :=
  ⟨_, by
    show bEnd [some s, d, x2, x3, x4, x5, x6, x7, x8, x9, none] = .rt (.bl true) [some s, d, x2, x3, x4, x5, x6, x7, x8, some (.exc "ListError" []), none]
    kernel_rfl⟩
theorem rounds_ok {s : D} {c : List Int} {x9 : Option D} (its : List D) : ∀ (n : Nat) (l : List Int) (r t : Int) (u : Bool) (x2 x3 x4 x5 x6 x7 x8 : Option D), DrS n l r c t → n + 2 * its.length < 1000 →
    ∃ d y2 y3 y4 y5 y6 y7 y8, forL (tgN 2) bRound its [some s, some (dr l r u c t), x2, x3, x4, x5, x6, x7, x8, x9, none] = .nx [some s, some d, y2, y3, y4, y5, y6, y7, y8, x9, none] := by
  induction its with
  | nil => exact fun n l r t u x2 x3 x4 x5 x6 x7 x8 _ _ => ⟨dr l r u c t, x2, x3, x4, x5, x6, x7, x8, by kernel_rfl⟩
  | cons e its ih =>
    intro n l r t u x2 x3 x4 x5 x6 x7 x8 h hn
    rw [List.length_cons] at hn
    obtain ⟨l2, r2, u2, t2, y3, y4, y5, y6, y7, y8, ok, e1⟩ := round_ok (s := s) (u := u) (x2 := some e) (x3 := x3) (x4 := x4) (x5 := x5) (x6 := x6) (x7 := x7) (x8 := x8) (x9 := x9) h (by omega)
    obtain ⟨d, z2, z3, z4, z5, z6, z7, z8, e2⟩ := ih (n + 2) l2 r2 t2 u2 (some e) y3 y4 y5 y6 y7 y8 ok (by omega)
    refine ⟨d, z2, z3, z4, z5, z6, z7, z8, ?_⟩
    rw [forL_nx (show tgN 2 e [some s, some (dr l r u c t), x2, x3, x4, x5, x6, x7, x8, x9, none] = some [some s, some (dr l r u c t), some e, x3, x4, x5, x6, x7, x8, x9, none] from rfl) e1]
    exact e2
/-- THE LAW -/
theorem law_true (ns : List Int) (hs : ns.length ≤ 63) : mlaw [.lst false (dIs ns)] = .ok (.bl true) [none] := by
  obtain ⟨d, e0, l, r, u, c, t, rfl, ok⟩ := begun_ok ns hs
  have ss : solid (.lst false (dIs ns)) = true := by simp [solid, solids_ints]
  have a1 : asgS 1 (callD m_law_begun [.nm 0]) [some (.lst false (dIs ns)), none, none, none, none, none, none, none, none, none, none] = .nx [some (.lst false (dIs ns)), some (dr l r u c t), none, none, none, none, none, none, none, none, none] := by
    have c1 : callD m_law_begun [.nm 0] [some (.lst false (dIs ns)), none, none, none, none, none, none, none, none, none, none] = .ok (dr l r u c t) [some (.lst false (dIs ns)), none, none, none, none, none, none, none, none, none, none] := by
      unfold callD
      simp only [evalT, List.getElem?_cons_zero, Res.bind_ok, takeO, ss, if_true, e_begun, e0, putO]
    simp only [asgS, c1, bindS, List.set_cons_succ, List.set_cons_zero]
  obtain ⟨m, hm, a2⟩ : ∃ m : Nat, m ≤ 8 ∧ srcR rngOf1 (itOne (qE (qOp (lift2 maxK) (qCons (qK (.int 2)) (qCons (qOp (lift2 minK) (qCons (qK (.int 8)) (qCons (qOp lenD (qCons (qN 0) qNil)) qNil))) qNil)))) itNil) [some (.lst false (dIs ns)), some (dr l r u c t), none, none, none, none, none, none, none, none, none] =
      .ok (rng 0 m) [some (.lst false (dIs ns)), some (dr l r u c t), none, none, none, none, none, none, none, none, none] := by
    let a : Int := if (if (ns.length : Int) < 8 then (ns.length : Int) else 8) > 2 then (if (ns.length : Int) < 8 then (ns.length : Int) else 8) else 2
    have ha : 2 ≤ a ∧ a ≤ 8 := by
      show 2 ≤ (if (if (ns.length : Int) < 8 then (ns.length : Int) else 8) > 2 then (if (ns.length : Int) < 8 then (ns.length : Int) else 8) else 2) ∧ (if (if (ns.length : Int) < 8 then (ns.length : Int) else 8) > 2 then (if (ns.length : Int) < 8 then (ns.length : Int) else 8) else 2) ≤ 8
      split <;> split <;> omega
    refine ⟨a.toNat, by omega, ?_⟩
    have sl : (8 : Int) ≤ sizeLine := by decide +kernel
    have e1 : qOp (lift2 maxK) (qCons (qK (.int 2)) (qCons (qOp (lift2 minK) (qCons (qK (.int 8)) (qCons (qOp lenD (qCons (qN 0) qNil)) qNil))) qNil)) [some (.lst false (dIs ns)), some (dr l r u c t), none, none, none, none, none, none, none, none, none] = some (.int a) := by
      have e2 : lenD [.lst false (dIs ns)] = some (.int ns.length) := by
        simp [lenD, orC, lift1, lenL, dIs]
      simp only [qOp, qCons, qNil, qK, qN, List.getElem?_cons_zero, e2, lift2, minK, maxK, intK, yes2, if_true]
      rfl
    have e3 : rngOf1 [.int a] = some (rng 0 a.toNat) := if_pos ⟨by omega, by omega⟩
    simp only [srcR, itOne, itNil, qE, e1, Res.bind_ok, e3]
  obtain ⟨d2, y2, y3, y4, y5, y6, y7, y8, a3⟩ := rounds_ok (s := .lst false (dIs ns)) (x9 := none) (rng 0 m) 0 l r t u none none none none none none none ok (by simp [rng]; omega)
  obtain ⟨ρ, a4⟩ := end_ok (s := .lst false (dIs ns)) (d := some d2) (x2 := y2) (x3 := y3) (x4 := y4) (x5 := y5) (x6 := y6) (x7 := y7) (x8 := y8) (x9 := none)
  show (match blaw [some (.lst false (dIs ns)), none, none, none, none, none, none, none, none, none, none] with
    | .nx ρ => FR.ok .non (outsOf [0] 0 [.lst false (dIs ns)] ρ)
    | .rt d ρ => .ok d (outsOf [0] 0 [.lst false (dIs ns)] ρ)
    | .err e ρ => .err e (outsOf [0] 0 [.lst false (dIs ns)] ρ)
    | _ => .stuck) = _
  have e : blaw [some (.lst false (dIs ns)), none, none, none, none, none, none, none, none, none, none] = .rt (.bl true) ρ := by
    rw [blaw_eq]
    rw [seqS_nx a1, seqS_nx ((forS_ok a2).trans a3)]
    exact a4
  rw [e]
  simp [outsOf, ss]
end K1

set_option Elab.async false
set_option linter.all false
set_option maxRecDepth 100000
set_option maxHeartbeats 4000000
/-! the head: facts by names, the run of the top, the end -/
namespace K1
open PySem PySem.Spec PyProof.Rows L2 DL He
abbrev P0 : Program := PySem.Challenge.pw_listrings_k01_errors_made
def inner (s : Stmt) (j : Nat) : Stmt := match s with
  | .ClassDef _ _ _ b _ _ _ _ _ _ _ => b.getD j (.Pass ⟨0, 0, 0, 0⟩)
  | s => s
def er_BadBook : ErD := ⟨"BadBook", "name", "BadBook.__init__", inner (top 2) 0⟩
theorem et_BadBook : ErT P0 er_BadBook where
  body := ⟨_, _, _, _, _, _, _, _, _, _, _, _, rfl, fun env => ⟨_, rfl⟩⟩
  top := by kernel_rfl
  hks := by kernel_rfl
  hkc := by kernel_rfl
  hself := by kernel_rfl
  hx := by kernel_rfl
  ne := by decide +kernel
  ndb := by decide +kernel
  hk := by kernel_rfl
  par := ⟨_, rfl, rfl⟩
  hcell := by decide +kernel
  hco := by kernel_rfl
  hgen := by kernel_rfl
  bind := by intros; kernel_rfl
  bindK := by intros; kernel_rfl
def er_BadJournal : ErD := ⟨"BadJournal", "at", "BadJournal.__init__", inner (top 24) 0⟩
theorem et_BadJournal : ErT P0 er_BadJournal where
  body := ⟨_, _, _, _, _, _, _, _, _, _, _, _, rfl, fun env => ⟨_, rfl⟩⟩
  top := by kernel_rfl
  hks := by kernel_rfl
  hkc := by kernel_rfl
  hself := by kernel_rfl
  hx := by kernel_rfl
  ne := by decide +kernel
  ndb := by decide +kernel
  hk := by kernel_rfl
  par := ⟨_, rfl, rfl⟩
  hcell := by decide +kernel
  hco := by kernel_rfl
  hgen := by kernel_rfl
  bind := by intros; kernel_rfl
  bindK := by intros; kernel_rfl
def er_BadLot : ErD := ⟨"BadLot", "at", "BadLot.__init__", inner (top 7) 0⟩
theorem et_BadLot : ErT P0 er_BadLot where
  body := ⟨_, _, _, _, _, _, _, _, _, _, _, _, rfl, fun env => ⟨_, rfl⟩⟩
  top := by kernel_rfl
  hks := by kernel_rfl
  hkc := by kernel_rfl
  hself := by kernel_rfl
  hx := by kernel_rfl
  ne := by decide +kernel
  ndb := by decide +kernel
  hk := by kernel_rfl
  par := ⟨_, rfl, rfl⟩
  hcell := by decide +kernel
  hco := by kernel_rfl
  hgen := by kernel_rfl
  bind := by intros; kernel_rfl
  bindK := by intros; kernel_rfl
def er_BadText : ErD := ⟨"BadText", "at", "BadText.__init__", inner (top 25) 0⟩
theorem et_BadText : ErT P0 er_BadText where
  body := ⟨_, _, _, _, _, _, _, _, _, _, _, _, rfl, fun env => ⟨_, rfl⟩⟩
  top := by kernel_rfl
  hks := by kernel_rfl
  hkc := by kernel_rfl
  hself := by kernel_rfl
  hx := by kernel_rfl
  ne := by decide +kernel
  ndb := by decide +kernel
  hk := by kernel_rfl
  par := ⟨_, rfl, rfl⟩
  hcell := by decide +kernel
  hco := by kernel_rfl
  hgen := by kernel_rfl
  bind := by intros; kernel_rfl
  bindK := by intros; kernel_rfl
def er_NoAnswer : ErD := ⟨"NoAnswer", "answer", "NoAnswer.__init__", inner (top 11) 0⟩
theorem et_NoAnswer : ErT P0 er_NoAnswer where
  body := ⟨_, _, _, _, _, _, _, _, _, _, _, _, rfl, fun env => ⟨_, rfl⟩⟩
  top := by kernel_rfl
  hks := by kernel_rfl
  hkc := by kernel_rfl
  hself := by kernel_rfl
  hx := by kernel_rfl
  ne := by decide +kernel
  ndb := by decide +kernel
  hk := by kernel_rfl
  par := ⟨_, rfl, rfl⟩
  hcell := by decide +kernel
  hco := by kernel_rfl
  hgen := by kernel_rfl
  bind := by intros; kernel_rfl
  bindK := by intros; kernel_rfl
def er_NoList : ErD := ⟨"NoList", "name", "NoList.__init__", inner (top 3) 0⟩
theorem et_NoList : ErT P0 er_NoList where
  body := ⟨_, _, _, _, _, _, _, _, _, _, _, _, rfl, fun env => ⟨_, rfl⟩⟩
  top := by kernel_rfl
  hks := by kernel_rfl
  hkc := by kernel_rfl
  hself := by kernel_rfl
  hx := by kernel_rfl
  ne := by decide +kernel
  ndb := by decide +kernel
  hk := by kernel_rfl
  par := ⟨_, rfl, rfl⟩
  hcell := by decide +kernel
  hco := by kernel_rfl
  hgen := by kernel_rfl
  bind := by intros; kernel_rfl
  bindK := by intros; kernel_rfl
def er_NoPerson : ErD := ⟨"NoPerson", "person", "NoPerson.__init__", inner (top 21) 0⟩
theorem et_NoPerson : ErT P0 er_NoPerson where
  body := ⟨_, _, _, _, _, _, _, _, _, _, _, _, rfl, fun env => ⟨_, rfl⟩⟩
  top := by kernel_rfl
  hks := by kernel_rfl
  hkc := by kernel_rfl
  hself := by kernel_rfl
  hx := by kernel_rfl
  ne := by decide +kernel
  ndb := by decide +kernel
  hk := by kernel_rfl
  par := ⟨_, rfl, rfl⟩
  hcell := by decide +kernel
  hco := by kernel_rfl
  hgen := by kernel_rfl
  bind := by intros; kernel_rfl
  bindK := by intros; kernel_rfl
def er_NotSettled : ErD := ⟨"NotSettled", "kind", "NotSettled.__init__", inner (top 15) 0⟩
theorem et_NotSettled : ErT P0 er_NotSettled where
  body := ⟨_, _, _, _, _, _, _, _, _, _, _, _, rfl, fun env => ⟨_, rfl⟩⟩
  top := by kernel_rfl
  hks := by kernel_rfl
  hkc := by kernel_rfl
  hself := by kernel_rfl
  hx := by kernel_rfl
  ne := by decide +kernel
  ndb := by decide +kernel
  hk := by kernel_rfl
  par := ⟨_, rfl, rfl⟩
  hcell := by decide +kernel
  hco := by kernel_rfl
  hgen := by kernel_rfl
  bind := by intros; kernel_rfl
  bindK := by intros; kernel_rfl
def er_TooMany : ErD := ⟨"TooMany", "most", "TooMany.__init__", inner (top 6) 0⟩
theorem et_TooMany : ErT P0 er_TooMany where
  body := ⟨_, _, _, _, _, _, _, _, _, _, _, _, rfl, fun env => ⟨_, rfl⟩⟩
  top := by kernel_rfl
  hks := by kernel_rfl
  hkc := by kernel_rfl
  hself := by kernel_rfl
  hx := by kernel_rfl
  ne := by decide +kernel
  ndb := by decide +kernel
  hk := by kernel_rfl
  par := ⟨_, rfl, rfl⟩
  hcell := by decide +kernel
  hco := by kernel_rfl
  hgen := by kernel_rfl
  bind := by intros; kernel_rfl
  bindK := by intros; kernel_rfl
def D_law_begun : DefD := ⟨("_law_begun", none), "_law_begun", "_law_begun", defArgs s_law_begun, defBody s_law_begun, defScope s_law_begun, [], []⟩
def D_law_mixed : DefD := ⟨("_law_mixed", none), "_law_mixed", "_law_mixed", defArgs s_law_mixed, defBody s_law_mixed, defScope s_law_mixed, [], []⟩
def D_law_take : DefD := ⟨("_law_take", none), "_law_take", "_law_take", defArgs s_law_take, defBody s_law_take, defScope s_law_take, [], []⟩
def D_law_pick : DefD := ⟨("_law_pick", none), "_law_pick", "_law_pick", defArgs s_law_pick, defBody s_law_pick, defScope s_law_pick, [], []⟩
def D_law_worth : DefD := ⟨("_law_worth", none), "_law_worth", "_law_worth", defArgs s_law_worth, defBody s_law_worth, defScope s_law_worth, [], []⟩
def D_law_first_flags : DefD := ⟨("_law_first_flags", none), "_law_first_flags", "_law_first_flags", defArgs s_law_first_flags, defBody s_law_first_flags, defScope s_law_first_flags, [], []⟩
def D_law_flags : DefD := ⟨("_law_flags", none), "_law_flags", "_law_flags", defArgs s_law_flags, defBody s_law_flags, defScope s_law_flags, [], []⟩
def D_law_held : DefD := ⟨("_law_held", none), "_law_held", "_law_held", defArgs s_law_held, defBody s_law_held, defScope s_law_held, [], []⟩
def D_law_named : DefD := ⟨("_law_named", none), "_law_named", "_law_named", defArgs s_law_named, defBody s_law_named, defScope s_law_named, [], []⟩
def D_law_bare : DefD := ⟨("_law_bare", none), "_law_bare", "_law_bare", defArgs s_law_bare, defBody s_law_bare, defScope s_law_bare, [], []⟩
def Dlaw : DefD := ⟨("law", none), "law", "law", defArgs slaw, defBody slaw, defScope slaw, [], []⟩
def fn : List DefD := ([D_law_begun, D_law_mixed, D_law_take, D_law_pick, D_law_worth, D_law_first_flags, D_law_flags, D_law_held, D_law_named, D_law_bare, Dlaw] : List DefD)
def fa : List Fa := ([.glo "_law_begun", .glo "_law_mixed", .glo "_law_take", .glo "_law_pick", .glo "_law_worth", .glo "_law_first_flags", .glo "_law_flags", .glo "_law_held", .glo "_law_named", .glo "_law_bare", .glo "law", .free "ValueError", .free "abs", .free "enumerate", .free "int", .free "isinstance", .free "len", .free "max", .free "min", .free "range"] : List Fa) ++ ([.free "repr", .free "super"] : List Fa)
def es : List ErD := ([er_BadBook, er_BadJournal, er_BadLot, er_BadText, er_NoAnswer, er_NoList, er_NoPerson, er_NotSettled, er_TooMany] : List ErD)
def exs (K : PySem.W.Frag) : List Bool := ([((Fa.glo "BadEntry").ok K && isTabB K (.ref (ga K "BadEntry")) bt_BadEntry ct_BadEntry),
  ((Fa.glo "Same").ok K && isTabB K (.ref (ga K "Same")) bt_Same ct_Same),
  ((Fa.glo "Unlike").ok K && isTabB K (.ref (ga K "Unlike")) bt_Unlike ct_Unlike),
  ((Fa.glo "BadKind").ok K && isTabB K (.ref (ga K "BadKind")) bt_BadKind ct_BadKind),
  ((Fa.glo "BadSet").ok K && isTabB K (.ref (ga K "BadSet")) bt_BadSet ct_BadSet),
  ((Fa.glo "NotSingle").ok K && isTabB K (.ref (ga K "NotSingle")) bt_NotSingle ct_NotSingle),
  ((Fa.glo "BadRing").ok K && isTabB K (.ref (ga K "BadRing")) bt_BadRing ct_BadRing),
  ((Fa.glo "BadNumber").ok K && isTabB K (.ref (ga K "BadNumber")) bt_BadNumber ct_BadNumber),
  ((Fa.glo "OtherFilled").ok K && isTabB K (.ref (ga K "OtherFilled")) bt_OtherFilled ct_OtherFilled),
  ((Fa.glo "BadPlan").ok K && isTabB K (.ref (ga K "BadPlan")) bt_BadPlan ct_BadPlan),
  ((Fa.glo "BadSeen").ok K && isTabB K (.ref (ga K "BadSeen")) bt_BadSeen ct_BadSeen),
  ((Fa.glo "BadView").ok K && isTabB K (.ref (ga K "BadView")) bt_BadView ct_BadView),
  ((Fa.glo "BadPerson").ok K && isTabB K (.ref (ga K "BadPerson")) bt_BadPerson ct_BadPerson),
  ((Fa.glo "NoEntry").ok K && isTabB K (.ref (ga K "NoEntry")) bt_NoEntry ct_NoEntry),
  ((Fa.glo "NothingDone").ok K && isTabB K (.ref (ga K "NothingDone")) bt_NothingDone ct_NothingDone),
  ((Fa.glo "BadBook").ok K && isTabB K (.ref (ga K "BadBook")) bt_BadBook ct_BadBook),
  ((Fa.glo "NoList").ok K && isTabB K (.ref (ga K "NoList")) bt_NoList ct_NoList),
  ((Fa.glo "TooMany").ok K && isTabB K (.ref (ga K "TooMany")) bt_TooMany ct_TooMany),
  ((Fa.glo "BadLot").ok K && isTabB K (.ref (ga K "BadLot")) bt_BadLot ct_BadLot),
  ((Fa.glo "NoAnswer").ok K && isTabB K (.ref (ga K "NoAnswer")) bt_NoAnswer ct_NoAnswer)] : List Bool) ++ ([((Fa.glo "NotSettled").ok K && isTabB K (.ref (ga K "NotSettled")) bt_NotSettled ct_NotSettled),
  ((Fa.glo "NoPerson").ok K && isTabB K (.ref (ga K "NoPerson")) bt_NoPerson ct_NoPerson),
  ((Fa.glo "BadJournal").ok K && isTabB K (.ref (ga K "BadJournal")) bt_BadJournal ct_BadJournal),
  ((Fa.glo "BadText").ok K && isTabB K (.ref (ga K "BadText")) bt_BadText ct_BadText),
  errTabB K errT errN,
  ((Fa.glo "NotSingle").ok K && (Fa.exc "NotSingle").ok K),
  ((Fa.glo "BadSet").ok K && (Fa.exc "BadSet").ok K),
  ((Fa.glo "BadKind").ok K && (Fa.exc "BadKind").ok K),
  ((Fa.glo "Unlike").ok K && (Fa.exc "Unlike").ok K),
  ((Fa.glo "Same").ok K && (Fa.exc "Same").ok K),
  ((Fa.glo "BadEntry").ok K && (Fa.exc "BadEntry").ok K),
  ((Fa.glo "BadSeen").ok K && (Fa.exc "BadSeen").ok K),
  ((Fa.glo "BadPlan").ok K && (Fa.exc "BadPlan").ok K),
  ((Fa.glo "OtherFilled").ok K && (Fa.exc "OtherFilled").ok K),
  ((Fa.glo "BadNumber").ok K && (Fa.exc "BadNumber").ok K),
  ((Fa.glo "BadRing").ok K && (Fa.exc "BadRing").ok K),
  ((Fa.glo "NothingDone").ok K && (Fa.exc "NothingDone").ok K),
  ((Fa.glo "NoEntry").ok K && (Fa.exc "NoEntry").ok K),
  ((Fa.glo "BadPerson").ok K && (Fa.exc "BadPerson").ok K),
  ((Fa.glo "BadView").ok K && (Fa.exc "BadView").ok K)] : List Bool) ++ ([((Fa.glo "ListError").ok K && isTabB K (.ref (ga K "ListError")) bt_ListError ct_ListError),
  isTabB K (.type "ValueError") bt_ValueError ct_ValueError,
  ((Fa.glo "ListError").ok K && (Fa.exc "ListError").ok K),
  sysB K,
  ErD.ok P0.main.file K er_BadBook,
  ErD.ok P0.main.file K er_BadJournal,
  ErD.ok P0.main.file K er_BadLot,
  ErD.ok P0.main.file K er_BadText,
  ErD.ok P0.main.file K er_NoAnswer,
  ErD.ok P0.main.file K er_NoList,
  ErD.ok P0.main.file K er_NoPerson,
  ErD.ok P0.main.file K er_NotSettled,
  ErD.ok P0.main.file K er_TooMany] : List Bool)
def ex (K : PySem.W.Frag) : Bool := (exs K).all id
abbrev RR : PySem.W.OpenRow := PySem.W.OpenLaw.row PySem.Challenge.rw_listrings_k01_errors_made
abbrev hk : PySem.W.Hook := hookZ 5 fa fn ex es
def ob (s : PySem.W.SharedT) : AlZ := obsZG 5 fa fn ex es (HandSHeadRun.getT s)
theorem ob_eq (s : PySem.W.SharedT) : ob s = hk.obs s.abs := obsZG_eq (HandSHeadRun.getT_eq s)
def loose : List Str := (["ListError", "BadBook", "NoList", "BadEntry", "Same", "TooMany", "BadLot", "Unlike", "BadKind", "BadSet", "NoAnswer", "NotSingle", "BadRing", "BadNumber", "NotSettled", "OtherFilled", "BadPlan", "BadSeen", "BadView", "BadPerson"] : List Str) ++ (["NoPerson", "NoEntry", "NothingDone", "BadJournal", "BadText", "_law_begun", "_law_mixed", "_law_take", "_law_pick", "_law_worth", "_law_first_flags", "_law_flags", "_law_held", "_law_named", "_law_bare"] : List Str)
theorem all_at {l : List Bool} (h : l.all id = true) (i : Nat) {b : Bool} (e : l[i]? = some b := by rfl) : b = true := List.all_eq_true.mp h b (List.mem_of_getElem? e)
theorem run (w : World) : HandSHeadRun.RunEq RR (PySem.W.view RR.prog [37]) hk ob 40000 loose w := by
  intro os
  kernel_rfl
theorem facts {w : World} {K : PySem.W.Frag} {h : Heap} {mg : Str → Option Value} {f : Addr} (X : K.In h) (G : h.Ns mainGlobals mg) (hfa : mg ("law" : Str) = some (.ref f)) (c : SaysZ fa fn ex es K) :
    ∃ fd : FuncData, (∀ (s : Shared) (u : Value), BindsTo s fd ⟨[u], []⟩ [("_law_script", u)]) ∧ ∀ base : Heap, K.In base → base.Ns mainGlobals mg → FnG P0 w K mg base 5 f fd 1 ["_law_script"] (spN ⟨P0, w, K, mg⟩ 1 mlaw) := by
  have cb := c.base
  have cm := c.more
  obtain ⟨fd_law_begun, F_law_begun⟩ := cb.def_ 0 (d := D_law_begun) rfl
  have h_law_begun := glo_ok X G (cb.fact 0 (f := .glo "_law_begun") rfl)
  obtain ⟨fd_law_mixed, F_law_mixed⟩ := cb.def_ 1 (d := D_law_mixed) rfl
  have h_law_mixed := glo_ok X G (cb.fact 1 (f := .glo "_law_mixed") rfl)
  obtain ⟨fd_law_take, F_law_take⟩ := cb.def_ 2 (d := D_law_take) rfl
  have h_law_take := glo_ok X G (cb.fact 2 (f := .glo "_law_take") rfl)
  obtain ⟨fd_law_pick, F_law_pick⟩ := cb.def_ 3 (d := D_law_pick) rfl
  have h_law_pick := glo_ok X G (cb.fact 3 (f := .glo "_law_pick") rfl)
  obtain ⟨fd_law_worth, F_law_worth⟩ := cb.def_ 4 (d := D_law_worth) rfl
  have h_law_worth := glo_ok X G (cb.fact 4 (f := .glo "_law_worth") rfl)
  obtain ⟨fd_law_first_flags, F_law_first_flags⟩ := cb.def_ 5 (d := D_law_first_flags) rfl
  have h_law_first_flags := glo_ok X G (cb.fact 5 (f := .glo "_law_first_flags") rfl)
  obtain ⟨fd_law_flags, F_law_flags⟩ := cb.def_ 6 (d := D_law_flags) rfl
  have h_law_flags := glo_ok X G (cb.fact 6 (f := .glo "_law_flags") rfl)
  obtain ⟨fd_law_held, F_law_held⟩ := cb.def_ 7 (d := D_law_held) rfl
  have h_law_held := glo_ok X G (cb.fact 7 (f := .glo "_law_held") rfl)
  obtain ⟨fd_law_named, F_law_named⟩ := cb.def_ 8 (d := D_law_named) rfl
  have h_law_named := glo_ok X G (cb.fact 8 (f := .glo "_law_named") rfl)
  obtain ⟨fd_law_bare, F_law_bare⟩ := cb.def_ 9 (d := D_law_bare) rfl
  have h_law_bare := glo_ok X G (cb.fact 9 (f := .glo "_law_bare") rfl)
  obtain ⟨fdlaw, Flaw⟩ := cb.def_ 10 (d := Dlaw) rfl
  have hlaw := glo_ok X G (cb.fact 10 (f := .glo "law") rfl)
  have g_ValueError := free_ok X G (cb.fact 11 (f := .free "ValueError") rfl)
  have g_abs := free_ok X G (cb.fact 12 (f := .free "abs") rfl)
  have g_enumerate := free_ok X G (cb.fact 13 (f := .free "enumerate") rfl)
  have g_int := free_ok X G (cb.fact 14 (f := .free "int") rfl)
  have g_isinstance := free_ok X G (cb.fact 15 (f := .free "isinstance") rfl)
  have g_len := free_ok X G (cb.fact 16 (f := .free "len") rfl)
  have g_max := free_ok X G (cb.fact 17 (f := .free "max") rfl)
  have g_min := free_ok X G (cb.fact 18 (f := .free "min") rfl)
  have g_range := free_ok X G (cb.fact 19 (f := .free "range") rfl)
  have g_repr := free_ok X G (cb.fact 20 (f := .free "repr") rfl)
  have g_super := free_ok X G (cb.fact 21 (f := .free "super") rfl)
  have o_BadEntry : IsOwn K mg "BadEntry" bt_BadEntry ct_BadEntry it_BadEntry := isOwn_of X G (all_at cm 0)
  have o_Same : IsOwn K mg "Same" bt_Same ct_Same it_Same := isOwn_of X G (all_at cm 1)
  have o_Unlike : IsOwn K mg "Unlike" bt_Unlike ct_Unlike it_Unlike := isOwn_of X G (all_at cm 2)
  have o_BadKind : IsOwn K mg "BadKind" bt_BadKind ct_BadKind it_BadKind := isOwn_of X G (all_at cm 3)
  have o_BadSet : IsOwn K mg "BadSet" bt_BadSet ct_BadSet it_BadSet := isOwn_of X G (all_at cm 4)
  have o_NotSingle : IsOwn K mg "NotSingle" bt_NotSingle ct_NotSingle it_NotSingle := isOwn_of X G (all_at cm 5)
  have o_BadRing : IsOwn K mg "BadRing" bt_BadRing ct_BadRing it_BadRing := isOwn_of X G (all_at cm 6)
  have o_BadNumber : IsOwn K mg "BadNumber" bt_BadNumber ct_BadNumber it_BadNumber := isOwn_of X G (all_at cm 7)
  have o_OtherFilled : IsOwn K mg "OtherFilled" bt_OtherFilled ct_OtherFilled it_OtherFilled := isOwn_of X G (all_at cm 8)
  have o_BadPlan : IsOwn K mg "BadPlan" bt_BadPlan ct_BadPlan it_BadPlan := isOwn_of X G (all_at cm 9)
  have o_BadSeen : IsOwn K mg "BadSeen" bt_BadSeen ct_BadSeen it_BadSeen := isOwn_of X G (all_at cm 10)
  have o_BadView : IsOwn K mg "BadView" bt_BadView ct_BadView it_BadView := isOwn_of X G (all_at cm 11)
  have o_BadPerson : IsOwn K mg "BadPerson" bt_BadPerson ct_BadPerson it_BadPerson := isOwn_of X G (all_at cm 12)
  have o_NoEntry : IsOwn K mg "NoEntry" bt_NoEntry ct_NoEntry it_NoEntry := isOwn_of X G (all_at cm 13)
  have o_NothingDone : IsOwn K mg "NothingDone" bt_NothingDone ct_NothingDone it_NothingDone := isOwn_of X G (all_at cm 14)
  have o_BadBook : IsOwn K mg "BadBook" bt_BadBook ct_BadBook it_BadBook := isOwn_of X G (all_at cm 15)
  have o_NoList : IsOwn K mg "NoList" bt_NoList ct_NoList it_NoList := isOwn_of X G (all_at cm 16)
  have o_TooMany : IsOwn K mg "TooMany" bt_TooMany ct_TooMany it_TooMany := isOwn_of X G (all_at cm 17)
  have o_BadLot : IsOwn K mg "BadLot" bt_BadLot ct_BadLot it_BadLot := isOwn_of X G (all_at cm 18)
  have o_NoAnswer : IsOwn K mg "NoAnswer" bt_NoAnswer ct_NoAnswer it_NoAnswer := isOwn_of X G (all_at cm 19)
  have o_NotSettled : IsOwn K mg "NotSettled" bt_NotSettled ct_NotSettled it_NotSettled := isOwn_of X G (all_at cm 20)
  have o_NoPerson : IsOwn K mg "NoPerson" bt_NoPerson ct_NoPerson it_NoPerson := isOwn_of X G (all_at cm 21)
  have o_BadJournal : IsOwn K mg "BadJournal" bt_BadJournal ct_BadJournal it_BadJournal := isOwn_of X G (all_at cm 22)
  have o_BadText : IsOwn K mg "BadText" bt_BadText ct_BadText it_BadText := isOwn_of X G (all_at cm 23)
  have tb_err : ErrTab K mg errT errN := errTab_of X G (all_at cm 24)
  have z_NotSingle : Err0 K mg "NotSingle" := err0_of X G (all_at cm 25)
  have z_BadSet : Err0 K mg "BadSet" := err0_of X G (all_at cm 26)
  have z_BadKind : Err0 K mg "BadKind" := err0_of X G (all_at cm 27)
  have z_Unlike : Err0 K mg "Unlike" := err0_of X G (all_at cm 28)
  have z_Same : Err0 K mg "Same" := err0_of X G (all_at cm 29)
  have z_BadEntry : Err0 K mg "BadEntry" := err0_of X G (all_at cm 30)
  have z_BadSeen : Err0 K mg "BadSeen" := err0_of X G (all_at cm 31)
  have z_BadPlan : Err0 K mg "BadPlan" := err0_of X G (all_at cm 32)
  have z_OtherFilled : Err0 K mg "OtherFilled" := err0_of X G (all_at cm 33)
  have z_BadNumber : Err0 K mg "BadNumber" := err0_of X G (all_at cm 34)
  have z_BadRing : Err0 K mg "BadRing" := err0_of X G (all_at cm 35)
  have z_NothingDone : Err0 K mg "NothingDone" := err0_of X G (all_at cm 36)
  have z_NoEntry : Err0 K mg "NoEntry" := err0_of X G (all_at cm 37)
  have z_BadPerson : Err0 K mg "BadPerson" := err0_of X G (all_at cm 38)
  have z_BadView : Err0 K mg "BadView" := err0_of X G (all_at cm 39)
  have o_ListError : IsOwn K mg "ListError" bt_ListError ct_ListError it_ListError := isOwn_of X G (all_at cm 40)
  have ty_ValueError : IsTab K mg (.type "ValueError") bt_ValueError ct_ValueError it_ValueError := isTabB_ok X G (all_at cm 41)
  have z_ListError : Err0 K mg "ListError" := err0_of X G (all_at cm 42)
  have hS := sysB_ok (all_at cm 43)
  cases hfa.symm.trans hlaw
  refine ⟨_, fun s u => FunD.bindsA (ps := ["_law_script"]) Flaw (fun _ _ _ _ _ _ us hl => match us, hl with | [_], _ => rfl) s [u] rfl, fun base XB GB => ?_⟩
  have m_BadBook : MkErr P0 w K mg base "BadBook" "name" := mkErr_of (d := er_BadBook) X G g_super et_BadBook (all_at cm 44) (c.err 0)
  have k_BadBook : MkErrK P0 w K mg base "BadBook" "name" "name" := mkErrK_of (d := er_BadBook) X G g_super et_BadBook (all_at cm 44) (c.err 0)
  have m_BadJournal : MkErr P0 w K mg base "BadJournal" "at" := mkErr_of (d := er_BadJournal) X G g_super et_BadJournal (all_at cm 45) (c.err 1)
  have k_BadJournal : MkErrK P0 w K mg base "BadJournal" "at" "at" := mkErrK_of (d := er_BadJournal) X G g_super et_BadJournal (all_at cm 45) (c.err 1)
  have m_BadLot : MkErr P0 w K mg base "BadLot" "at" := mkErr_of (d := er_BadLot) X G g_super et_BadLot (all_at cm 46) (c.err 2)
  have k_BadLot : MkErrK P0 w K mg base "BadLot" "at" "at" := mkErrK_of (d := er_BadLot) X G g_super et_BadLot (all_at cm 46) (c.err 2)
  have m_BadText : MkErr P0 w K mg base "BadText" "at" := mkErr_of (d := er_BadText) X G g_super et_BadText (all_at cm 47) (c.err 3)
  have k_BadText : MkErrK P0 w K mg base "BadText" "at" "at" := mkErrK_of (d := er_BadText) X G g_super et_BadText (all_at cm 47) (c.err 3)
  have m_NoAnswer : MkErr P0 w K mg base "NoAnswer" "answer" := mkErr_of (d := er_NoAnswer) X G g_super et_NoAnswer (all_at cm 48) (c.err 4)
  have k_NoAnswer : MkErrK P0 w K mg base "NoAnswer" "answer" "answer" := mkErrK_of (d := er_NoAnswer) X G g_super et_NoAnswer (all_at cm 48) (c.err 4)
  have m_NoList : MkErr P0 w K mg base "NoList" "name" := mkErr_of (d := er_NoList) X G g_super et_NoList (all_at cm 49) (c.err 5)
  have k_NoList : MkErrK P0 w K mg base "NoList" "name" "name" := mkErrK_of (d := er_NoList) X G g_super et_NoList (all_at cm 49) (c.err 5)
  have m_NoPerson : MkErr P0 w K mg base "NoPerson" "person" := mkErr_of (d := er_NoPerson) X G g_super et_NoPerson (all_at cm 50) (c.err 6)
  have k_NoPerson : MkErrK P0 w K mg base "NoPerson" "person" "person" := mkErrK_of (d := er_NoPerson) X G g_super et_NoPerson (all_at cm 50) (c.err 6)
  have m_NotSettled : MkErr P0 w K mg base "NotSettled" "kind" := mkErr_of (d := er_NotSettled) X G g_super et_NotSettled (all_at cm 51) (c.err 7)
  have k_NotSettled : MkErrK P0 w K mg base "NotSettled" "kind" "kind" := mkErrK_of (d := er_NotSettled) X G g_super et_NotSettled (all_at cm 51) (c.err 7)
  have m_TooMany : MkErr P0 w K mg base "TooMany" "most" := mkErr_of (d := er_TooMany) X G g_super et_TooMany (all_at cm 52) (c.err 8)
  have k_TooMany : MkErrK P0 w K mg base "TooMany" "most" "most" := mkErrK_of (d := er_TooMany) X G g_super et_TooMany (all_at cm 52) (c.err 8)
  have c_law_begun := k_law_begun (P := P0) (w := w) (base := base) g_abs (fun_ofD F_law_begun) h_law_begun (FunD.bindsN (ps := ["_law_script"]) F_law_begun fun _ _ _ _ _ _ us hl => match us, hl with | [_], _ => rfl)
  have c_law_mixed := k_law_mixed (P := P0) (w := w) (base := base) g_int (fun_ofD F_law_mixed) h_law_mixed (FunD.bindsN (ps := ["_law_draw"]) F_law_mixed fun _ _ _ _ _ _ us hl => match us, hl with | [_], _ => rfl)
  have c_law_take := k_law_take (P := P0) (w := w) (base := base) g_int c_law_mixed (fun_ofD F_law_take) h_law_take (FunD.bindsN (ps := ["_law_draw", "_law_amount"]) F_law_take fun _ _ _ _ _ _ us hl => match us, hl with | [_, _], _ => rfl)
  have c_law_pick := k_law_pick (P := P0) (w := w) (base := base) g_len c_law_take (fun_ofD F_law_pick) h_law_pick (FunD.bindsN (ps := ["_law_draw", "_law_some"]) F_law_pick fun _ _ _ _ _ _ us hl => match us, hl with | [_, _], _ => rfl)
  have c_law_worth := k_law_worth (P := P0) (w := w) (base := base) c_law_pick (fun_ofD F_law_worth) h_law_worth (FunD.bindsN (ps := ["_law_draw"]) F_law_worth fun _ _ _ _ _ _ us hl => match us, hl with | [_], _ => rfl)
  have c_law_first_flags := k_law_first_flags (P := P0) (w := w) (base := base) o_BadEntry o_Same o_Unlike o_BadKind o_BadSet o_NotSingle o_BadRing o_BadNumber o_OtherFilled o_BadPlan o_BadSeen o_BadView o_BadPerson o_NoEntry o_NothingDone g_isinstance (fun_ofD F_law_first_flags) h_law_first_flags (FunD.bindsN (ps := ["_law_error"]) F_law_first_flags fun _ _ _ _ _ _ us hl => match us, hl with | [_], _ => rfl)
  have c_law_flags := k_law_flags (P := P0) (w := w) (base := base) o_BadBook o_NoList o_TooMany o_BadLot o_NoAnswer o_NotSettled o_NoPerson o_BadJournal o_BadText g_isinstance c_law_first_flags (fun_ofD F_law_flags) h_law_flags (FunD.bindsN (ps := ["_law_error"]) F_law_flags fun _ _ _ _ _ _ us hl => match us, hl with | [_], _ => rfl)
  have c_law_held := k_law_held (P := P0) (w := w) (base := base) m_NotSettled m_NoAnswer m_BadLot m_TooMany m_NoList m_BadBook m_BadText m_BadJournal m_NoPerson tb_err (fun_ofD F_law_held) h_law_held (FunD.bindsN (ps := ["_law_worth_here"]) F_law_held fun _ _ _ _ _ _ us hl => match us, hl with | [_], _ => rfl)
  have c_law_named := k_law_named (P := P0) (w := w) (base := base) k_BadLot k_TooMany k_NoList k_BadBook k_NoPerson k_NotSettled k_NoAnswer k_BadText k_BadJournal tb_err (fun_ofD F_law_named) h_law_named (FunD.bindsN (ps := ["_law_worth_here"]) F_law_named fun _ _ _ _ _ _ us hl => match us, hl with | [_], _ => rfl)
  have c_law_bare := k_law_bare (P := P0) (w := w) (base := base) z_NotSingle z_BadSet z_BadKind z_Unlike z_Same z_BadEntry z_BadSeen z_BadPlan z_OtherFilled z_BadNumber z_BadRing z_NothingDone z_NoEntry z_BadPerson z_BadView (fun_ofD F_law_bare) h_law_bare (FunD.bindsN (ps := ["_law_words"]) F_law_bare fun _ _ _ _ _ _ us hl => match us, hl with | [_], _ => rfl)
  exact glaw o_ListError ty_ValueError z_ListError hS g_range g_isinstance g_ValueError g_enumerate g_repr g_len g_min g_max c_law_begun c_law_worth c_law_pick c_law_held c_law_flags c_law_bare c_law_named (fun_ofD Flaw)
end K1
open PySem PySem.W PySem.Calls PyProof.Rows
theorem PySem.Challenge.cw_listrings_k01_errors_made_holds : PySem.Challenge.rw_listrings_k01_errors_made.Holds := by
  w_on; o_law
  refine HandSHeadRun.head_any (r := OpenLaw.row PySem.Challenge.rw_listrings_k01_errors_made) (q := view (OpenLaw.row PySem.Challenge.rw_listrings_k01_errors_made).prog [37]) (H := K1.hk) (ob := K1.ob) (M := 40000) (loose := K1.loose) (d := HandSHeadRun.topDef (OpenLaw.row PySem.Challenge.rw_listrings_k01_errors_made).prog 37) (kwd := []) K1.ob_eq
    (by kernel_rfl) (fun s => by kernel_rfl) K1.run (by kernel_rfl) (by kernel_rfl) (by kernel_rfl) (by rfl) (by first | assumption | decide +kernel) (by decide +kernel) ⟨rfl, rfl, rfl, rfl, rfl, by decide +kernel⟩ ?hw ?hc
  case hw => w_witness2
  case hc =>
    refine DL.walk_ofG (l := PySem.Challenge.rw_listrings_k01_errors_made) (n := 63) (k := 5) (x := "_law_script") rfl (by decide) (by kernel_rfl) ⟨rfl, by decide, by decide⟩ ?F
    intro w mg fa h Y G hmg0
    obtain ⟨K, KX, c⟩ := Y
    have hmg : mg ("law" : PySem.Str) = some (.ref fa) := by
      have e : (HandSHeadRun.topDef (OpenLaw.row PySem.Challenge.rw_listrings_k01_errors_made).prog 37).name = ("law" : PySem.Str) := by kernel_rfl
      rw [← e]
      exact hmg0
    obtain ⟨fd, hb, hF⟩ := K1.facts (w := w) KX G hmg c
    exact ⟨K, fd, _, KX, hb, fun H a ns hl hO hS => DL.meets_of (G := ⟨K1.P0, w, K, mg⟩) (K1.law_true ns hl) hO hS, hF⟩
