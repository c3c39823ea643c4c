/- A grid among a law's arguments. -/
import Derived.Test.YtmppgcknmmmioaaGreatDoorZ13
import Derived.Test.YtmppgcknmmmioaaGreatDoorTie
import Derived.Lib.LaidU8
import Derived.Shelf.Vars
import Derived.Lay
import Derived.Handed
import Derived.MakeChecks
import Derived.Test.YtmppgcknmmmioaaGreatDoorZ14
set_option linter.unusedSimpArgs false
set_option linter.unusedVariables false
set_option linter.unusedSectionVars false
set_option maxRecDepth 100000
namespace Go.Ab.Grid
open Go Go.Ab Go.Proofs Go.Shelf Go.ChangeShapes Go.WideShapes Go.ChangeAt Go.RowKit Go.Proofs.YtmppgcknmmmioaaGreatDoor
theorem isFn' (f nt : Nat) (rs : List ARes) (c : ACode) {W0 : Array Obj} (h : AP f = some (.fn nt rs c)) : ∃ nt rs body, (E W0).AP f = some (.fn nt rs body) := ⟨nt, rs, c, h⟩
theorem own : ownKnob Tryz.prog.godebug = none := by kernel_rfl
theorem laidOut : laidOutB Tryz.prog = true := by kernel_rfl
abbrev laidL : List (String × DataW Unit) := Rows.gridNearsRow.laid
theorem white {w : World} : Lib.VarReads Tryz.prog w "unicode.White_Space" Lib.whiteData → Lib.WhiteTab 1 w := fun h =>
  whiteTab_of_reads (ρ := Tryz.lays157_ren) { Tryz.lays157 with } { n6 := by kernel_rfl, y6 := by kernel_rfl, c3 := by kernel_rfl, c49 := by kernel_rfl, c193 := by kernel_rfl, c194 := by kernel_rfl, c196 := by kernel_rfl, c198 := by kernel_rfl } h
theorem var_heap {w : World} {n : String} {g : Nat} {cs : Array Value} (hg : Tryz.prog.globalNamed n = some g) (h : w.var? Tryz.prog n = some cs) : ∃ t fr, w.heap[g]? = some (.cells cs t fr) := by
  unfold World.var? at h
  rw [hg] at h
  simp only [Option.bind_some] at h
  split at h
  · rename_i cs' t fr he; cases h; exact ⟨t, fr, he⟩
  · cases h
theorem laidW_of {w : World} (hm : laidMet Tryz.prog laidL w) (hs : w.ShapedOpen Tryz.prog) : LaidW w := by
  have hp := Lib.laidMet.reads hm (d := Rows.laid_internal_strconv_uint64pow10) (List.mem_cons_of_mem _ (List.mem_cons_of_mem _ List.mem_cons_self))
  have hr := Lib.laidMet.reads hm (d := Rows.laid_strconv_ErrRange) (List.mem_cons_of_mem _ (List.mem_cons_of_mem _ (List.mem_cons_of_mem _ List.mem_cons_self)))
  have hy := Lib.laidMet.reads hm (d := Rows.laid_strconv_ErrSyntax) (List.mem_cons_of_mem _ (List.mem_cons_of_mem _ (List.mem_cons_of_mem _ (List.mem_cons_of_mem _ List.mem_cons_self))))
  have hw := Lib.laidMet.reads hm (d := Rows.laid_unicode_White_Space) (List.mem_cons_of_mem _ (List.mem_cons_of_mem _ (List.mem_cons_of_mem _ (List.mem_cons_of_mem _ (List.mem_cons_of_mem _ List.mem_cons_self)))))
  have ha := Lib.laidMet.reads hm (d := Rows.laid_strings_asciiSpace) (List.mem_cons_of_mem _ (List.mem_cons_of_mem _ (List.mem_cons_of_mem _ (List.mem_cons_of_mem _ (List.mem_cons_of_mem _ (List.mem_cons_of_mem _ List.mem_cons_self))))))
  have iface : ∀ {n : String} {nm : String} {d : DataW Unit} {g : Nat} {t : TypeId} {ms : Array (String × TypeId)}, Tryz.prog.globalNamed n = some g → (Tryz.prog.globals[g]?).map (·.type) = some t → Tryz.prog.underlying t = some (.interface ms) →
      Lib.VarReads Tryz.prog w n (.iface nm d) → ∃ ev, w.cell? ⟨g, 0, none⟩ = some ev ∧ (ev = .nilIface ∨ ∃ te pe, ev = .iface te pe) := by
    intro n nm d g t ms hg ht hu h
    obtain ⟨g', t', cs, fuel, p, hg', ht', hv, hd⟩ := h
    obtain rfl := Option.some.inj (hg.symm.trans hg')
    obtain rfl := Option.some.inj (ht.symm.trans ht')
    obtain ⟨_, u, v, hcs, _, _⟩ := iface_of_trod hu hd
    have := World.var?_cell hg hv 0
    rw [← Array.getElem?_toList, hcs] at this
    exact ⟨_, this, .inr ⟨u, v, rfl⟩⟩
  have tab : ∀ {n : String} {k : IntKind} {zs : List Int} {g : Nat} {t e : TypeId} {N : Nat}, Tryz.prog.globalNamed n = some g → (Tryz.prog.globals[g]?).map (·.type) = some t → Tryz.prog.underlying t = some (.array N e) →
      Tryz.prog.underlying e = some (.int k) → Tryz.prog.cellsOf e = 1 → Tryz.prog.cellsOf t = N → Lib.VarReads Tryz.prog w n (Lib.tabData k zs) → ∃ t fr, w.heap[g]? = some (.cells (zs.map fun z => Value.int k z).toArray t fr) := by
    intro n k zs g t e N hg ht hu he hce hct h
    obtain ⟨g', t', cs, fuel, p, hg', ht', hv, hd⟩ := h
    obtain rfl := Option.some.inj (hg.symm.trans hg')
    obtain rfl := Option.some.inj (ht.symm.trans ht')
    have hcs := Lib.cells_of_tab hu he hce hct hd
    obtain ⟨t, fr, h⟩ := var_heap hg hv
    exact ⟨t, fr, by rw [h, ← hcs]⟩
  refine ⟨?_, ?_, ?_, ?_, ?_, white hw⟩
  · exact cell_of_shapedOpen_int (zero := #[.int .i64 0]) (t := 3) hs (of_decide_eq_true (by kernel_rfl)) (by kernel_rfl) rfl (by kernel_rfl) (by kernel_rfl) Tryz.underlying3
  · exact iface (by kernel_rfl) (by kernel_rfl) Tryz.underlying122 hy
  · exact iface (by kernel_rfl) (by kernel_rfl) Tryz.underlying122 hr
  · exact tab (by kernel_rfl) (by kernel_rfl) Tryz.underlying207 (by kernel_rfl) (by kernel_rfl) (by kernel_rfl) ((show Rows.laid_internal_strconv_uint64pow10 = Lib.tabData .u64 Lib.pow10Tab by kernel_rfl) ▸ hp)
  · exact tab (by kernel_rfl) (by kernel_rfl) Tryz.underlying153 (by kernel_rfl) (by kernel_rfl) (by kernel_rfl) ((show Rows.laid_strings_asciiSpace = Lib.tabData .u8 Lib.asciiSpaceTab by kernel_rfl) ▸ ha)
section
variable {H : Type} {enc : TypeId × Value → H} {os : Os}
theorem laid_all (args : Array Value) : laidMetH Tryz.prog laidL ((World.laidAll Tryz.prog os laidL).forCall (fun _ _ => 0) ⟨#[], args, []⟩).memory := by
  rw [MakeChecks.laidMetH_plain _ _ _ (by kernel_rfl)]
  exact laidMet_laidAll _ (by kernel_rfl) (by kernel_rfl)
theorem laid_shaped (args : Array Value) : ((World.laidAll Tryz.prog os laidL).forCall (fun _ _ => 0) ⟨#[], args, []⟩).Shaped Tryz.prog := World.shaped_of_ZipB (by kernel_rfl) (by kernel_rfl)
theorem returns_laid {f : FuncId} {fn : Func} {s : ChangeSpec} (started : os.Started) (noInit : Tryz.checked.prog.inits.idxOf? f = none) (hfn : Tryz.checked.prog.funcs[f]? = some fn) (args0 : Array Value)
    (hok : Input.okWideB Tryz.checked.prog ((World.laidAll Tryz.prog os laidL).forCall (fun _ _ => 0) ⟨#[], args0, []⟩) f ⟨#[], args0, []⟩ = true)
    (hpre : s.preB enc Tryz.checked.prog fn [] false ((World.laidAll Tryz.prog os laidL).forCall (fun _ _ => 0) ⟨#[], args0, []⟩).memory args0 8 = true)
    (hsz : s.sizedB enc Tryz.checked.prog fn false ((World.laidAll Tryz.prog os laidL).forCall (fun _ _ => 0) ⟨#[], args0, []⟩).memory args0 8 = true)
    (contract : ∀ (W : World) (base : Nat) (args : Array Value) (ds gs : List (DataW H)) (before : List MemPlace),
      (∀ (j : Nat) t v, fn.params[j]? = some t → args[j]? = some v → Value.okWide Tryz.prog W .any base t v) →
      DataW.Whole enc Tryz.prog fn.params.toList s.vars false W args.toList ds gs before → LaidW W →
      Calls Tryz.prog f args W fun e W' => ∃ v, e = .returned v ∧ s.post enc Tryz.prog fn false true false false W args v W') :
    ReturnsInHanded {} Tryz.checked os f .any (fun w args => (s.pre enc Tryz.checked.prog fn [] false w args ∧ laidMetH Tryz.checked.prog laidL w) ∧ sizedMet enc Tryz.checked.prog fn (OpenSpec.ofChange s) false w args)
      (s.post enc Tryz.checked.prog fn false true false false) := by
  refine returnsInHanded_of_calls (C := Tryz.checked) own started noInit
    (ChangeSpec.witness_shaped (enc := enc) (C := Tryz.checked) (os := os) (s := s) (X := fun w _ => laidMetH Tryz.prog laidL w) false (World.laidAll Tryz.prog os laidL) args0 8 (World.laidAll_os _ _ _) (laid_shaped args0) hok hpre hsz (laid_all args0)) ?_
  intro w tape i _ hsh _ hok hpre _
  obtain ⟨_, _, _, fn', hfn', _, _, _, _, hval⟩ := hok
  have e : fn' = fn := Option.some.inj (hfn'.symm.trans hfn)
  subst e
  obtain ⟨⟨⟨ds, gs, before, hw, _⟩, hx⟩, _⟩ := hpre
  have hw' := DataW.Whole.of_heap (w' := w.forCall tape i) (by rfl) hw
  have hx' : laidMet Tryz.prog laidL (w.forCall tape i) := by
    have hx1 : laidMetH Tryz.prog laidL (w.forCall tape i).memory := hx
    rw [MakeChecks.laidMetH_plain _ _ _ (by kernel_rfl)] at hx1
    exact hx1.of_heap (by rfl)
  refine (contract (w.forCall tape i) w.heap.size i.args ds gs before hval hw' (laidW_of hx' hsh)).mono fun e W' ⟨v, he, hp⟩ => ?_
  subst he
  exact ChangeSpec.post_blind hp
end
end Go.Ab.Grid
set_option maxRecDepth 100000
namespace Go.Ab.Grid
open Go Go.Ab
end Go.Ab.Grid
