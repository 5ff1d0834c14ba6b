/- What a Reader's calls come to, for the program and for the reference: plain functions of its bytes, its place and its error. -/
import Derived.Test.YtfbdfnclkchofaaDoorYPackWritesPre1
import Derived.Test.YtfbdfnclkchofaaDoorYPackWritesPre2
import Derived.Test.YtfbdfnclkchofaaDoorYPackWritesQ3
import Derived.Test.YtfbdfnclkchofaaDoorYPackWritesQ4
import Derived.Test.YtfbdfnclkchofaaDoorYPackWritesQ5
namespace Go.Proofs.YtfbdfnclkchofaaDoor.Pure
set_option linter.unusedSimpArgs false
open Go Go.RowKit Go.Proofs.YtfbdfnclkchofaaDoorW.PrintWords Go.Proofs.YtfbdfnclkchofaaDoorW.PrintLast Go.Proofs.YtfbdfnclkchofaaDoorW.PrintMore Go.Proofs.YtfbdfnclkchofaaDoor.Q
abbrev nil' : ByteArray := ⟨#[]⟩
end Go.Proofs.YtfbdfnclkchofaaDoor.Pure
